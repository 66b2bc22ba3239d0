/- Closed calls of the reference at the two qualifiers of the examples. No conditions. -/
import Derived.Test.YtkefahdbckjajaaGreatDoorEzI
set_option linter.unusedVariables false
set_option maxRecDepth 1000000
namespace Go.Ev
open Go Go.Proofs
def Z6f : FnH := ⟨[],[]⟩
theorem Zfu : Enters Tg 129 := ⟨Tryz.f129,Tryz.func129,by kernel_rfl,by kernel_rfl⟩
noncomputable def Zm0 : Hints := ⟨[],[(129,Tryz.f129,Z6f)],[233,235,236,238,183]⟩
theorem Zrt {m n : Nat} {ds : List D} {d : D} (h : funD Tg Zm0 m n Z6f Tryz.f129 ds = some d) : DataSem Tg 129 ds d := Zf (H := Zm0) SpOk.nil mixed (InlOk.cons Tryz.func129 Zfu InlOk.nil) Tryz.func129 Zfu h
def Zy0 : List D := [(D.agg [(D.v (.int .u8 (1 : Int))),(D.v (.string (ByteArray.mk #[104,116,116,112,58,47,47,97]))),(D.v (.bool false)),zU,(D.v (.string (ByteArray.mk #[]))),(D.list 0 (some 0) []),(D.v (.bool false)),zU,(D.v (.string (ByteArray.mk #[]))),(D.v (.int .u8 (0 : Int))),zU,zU,zU,zU,zU,zU,zU,zU,zU,zU,zU,zU,zU,zU,zU,zU,(D.list 0 (some 0) [])])]
def Zy1 : D := (D.v (.bool true))
def Zy2 : List D := [(D.agg [(D.v (.int .u8 (2 : Int))),(D.v (.string (ByteArray.mk #[]))),(D.v (.bool false)),zU,(D.v (.string (ByteArray.mk #[]))),(D.list 0 (some 0) []),(D.v (.bool true)),(D.v (.int .u32 (12 : Int))),(D.v (.string (ByteArray.mk #[98]))),(D.v (.int .u8 (0 : Int))),zU,zU,zU,zU,zU,zU,zU,zU,zU,zU,zU,zU,zU,zU,zU,zU,(D.list 0 (some 0) [])])]
def Zy3 : D := (D.v (.bool true))
theorem Z19x : funD Tg Zm0 100000 60 Z6f Tryz.f129 Zy0 = some Zy1 := by kernel_rfl
theorem Z19y : funD Tg Zm0 100000 60 Z6f Tryz.f129 Zy2 = some Zy3 := by kernel_rfl
def Zuv (ds : List D) : Option D := if isT Zy0 ds then some Zy1 else (if isT Zy2 ds then some Zy3 else (none))
theorem Z1es : ∀ ds d,Zuv ds = some d → DataSem Tg 129 ds d := by
 intro ds d h
 unfold Zuv at h
 split at h
 ·rename_i ha; obtain rfl := isT_eq ha; cases h; exact Zrt Z19x
 split at h
 ·rename_i ha; obtain rfl := isT_eq ha; cases h; exact Zrt Z19y
 cases h
def Z7p : FnH := ⟨[(9,⟨(bm 17179869194 77),[],some 1000000⟩)],[]⟩
def Zjh : FnH := ⟨[(1,⟨(bm 1 169),[],none⟩),(9,⟨(bm 1 169),[],none⟩)],[]⟩
def Zji : FnH := ⟨[],[]⟩
theorem Zcn : Enters Tg 142 := ⟨Tryz.f142,Tryz.func142,by kernel_rfl,by kernel_rfl⟩
theorem Zjj : Enters Tg 163 := ⟨Tryz.f163,Tryz.func163,by kernel_rfl,by kernel_rfl⟩
theorem Zjk : Enters Tg 189 := ⟨Tryz.f189,Tryz.func189,by kernel_rfl,by kernel_rfl⟩
noncomputable def Zq5 : Hints := ⟨[],[(142,Tryz.f142,Z7p),(163,Tryz.f163,Zjh),(189,Tryz.f189,Zji)],[233,235,236,238,183]⟩
theorem Z118 {m n : Nat} {ds : List D} {d : D} (h : funD Tg Zq5 m n Z7p Tryz.f142 ds = some d) : DataSem Tg 142 ds d := Zf (H := Zq5) SpOk.nil mixed (InlOk.cons Tryz.func142 Zcn (InlOk.cons Tryz.func163 Zjj (InlOk.cons Tryz.func189 Zjk InlOk.nil))) Tryz.func142 Zcn h
def Zw3 : List D := [(D.agg [(D.v (.int .u32 (12 : Int))),(D.v (.string (ByteArray.mk #[98])))])]
def Zw4 : D := zI
theorem Z17a : funD Tg Zq5 100000 60 Z7p Tryz.f142 Zw3 = some Zw4 := by kernel_rfl
def Zsp (ds : List D) : Option D := if isT Zw3 ds then some Zw4 else (none)
theorem Z1bz : ∀ ds d,Zsp ds = some d → DataSem Tg 142 ds d := by
 intro ds d h
 unfold Zsp at h
 split at h
 ·rename_i ha; obtain rfl := isT_eq ha; cases h; exact Z118 Z17a
 cases h
def Z8c : FnH := ⟨[],[]⟩
theorem Zl9 : Enters Tg 143 := ⟨Tryz.f143,Tryz.func143,by kernel_rfl,by kernel_rfl⟩
noncomputable def Zru : Hints := ⟨[],[(143,Tryz.f143,Z8c)],[233,235,236,238,183]⟩
theorem Zw5 {m n : Nat} {ds : List D} {d : D} (h : funD Tg Zru m n Z8c Tryz.f143 ds = some d) : DataSem Tg 143 ds d := Zf (H := Zru) SpOk.nil mixed (InlOk.cons Tryz.func143 Zl9 InlOk.nil) Tryz.func143 Zl9 h
def Z13e : List D := [(D.v (.int .u32 (1 : Int)))]
def Z13f : D := (D.agg [(D.v (.int .u8 (9 : Int))),(D.v (.int .u32 (1 : Int))),(D.v (.int .u32 (3 : Int))),(D.v (.int .u32 (6 : Int))),(D.v (.int .u32 (1 : Int))),(D.v (.int .u32 (5 : Int))),(D.v (.int .u32 (5 : Int))),(D.v (.int .u32 (7 : Int))),(D.v (.int .u32 (2 : Int))),(D.v (.int .u32 (1 : Int))),zU,zU,zU,zU,zU,zU,zU])
def Z13g : List D := [(D.v (.int .u32 (2 : Int)))]
def Z13h : D := (D.agg [(D.v (.int .u8 (9 : Int))),(D.v (.int .u32 (1 : Int))),(D.v (.int .u32 (3 : Int))),(D.v (.int .u32 (6 : Int))),(D.v (.int .u32 (1 : Int))),(D.v (.int .u32 (5 : Int))),(D.v (.int .u32 (5 : Int))),(D.v (.int .u32 (7 : Int))),(D.v (.int .u32 (2 : Int))),(D.v (.int .u32 (2 : Int))),zU,zU,zU,zU,zU,zU,zU])
theorem Z1et : funD Tg Zru 100000 60 Z8c Tryz.f143 Z13e = some Z13f := by kernel_rfl
theorem Z1eu : funD Tg Zru 100000 60 Z8c Tryz.f143 Z13g = some Z13h := by kernel_rfl
def Zuw (ds : List D) : Option D := if isT Z13e ds then some Z13f else (if isT Z13g ds then some Z13h else (none))
theorem Z19z : ∀ ds d,Zuw ds = some d → DataSem Tg 143 ds d := by
 intro ds d h
 unfold Zuw at h
 split at h
 ·rename_i ha; obtain rfl := isT_eq ha; cases h; exact Zw5 Z1et
 split at h
 ·rename_i ha; obtain rfl := isT_eq ha; cases h; exact Zw5 Z1eu
 cases h
def Z5d : FnH := ⟨[(6,⟨(bm 10 76),[],some 1000000⟩)],[]⟩
def Zq6 : FnH := ⟨[],[]⟩
def Zou : FnH := ⟨[(22,⟨(bm 7865353 147),[],some 1000000⟩)],[]⟩
def Zq7 : FnH := ⟨[(7,⟨(bm 229 87),[],some 1000000⟩)],[]⟩
def Znv : FnH := ⟨[],[]⟩
def Zq8 : FnH := ⟨[(12,⟨(bm 225 59),[],some 1000000⟩)],[]⟩
theorem Zan : Enters Tg 130 := ⟨Tryz.f130,Tryz.func130,by kernel_rfl,by kernel_rfl⟩
theorem Zq9 : Enters Tg 144 := ⟨Tryz.f144,Tryz.func144,by kernel_rfl,by kernel_rfl⟩
theorem Zov : Enters Tg 164 := ⟨Tryz.f164,Tryz.func164,by kernel_rfl,by kernel_rfl⟩
theorem Zqa : Enters Tg 190 := ⟨Tryz.f190,Tryz.func190,by kernel_rfl,by kernel_rfl⟩
theorem Znw : Enters Tg 167 := ⟨Tryz.f167,Tryz.func167,by kernel_rfl,by kernel_rfl⟩
theorem Zqb : Enters Tg 191 := ⟨Tryz.f191,Tryz.func191,by kernel_rfl,by kernel_rfl⟩
noncomputable def Zh9 : Hints := ⟨[(142,Zsp),(143,Zuw),(91,fun _ => none)],[(130,Tryz.f130,Z5d),(144,Tryz.f144,Zq6),(164,Tryz.f164,Zou),(190,Tryz.f190,Zq7),(167,Tryz.f167,Znv),(191,Tryz.f191,Zq8)],[233,235,236,238,183]⟩
theorem Zom {m n : Nat} {ds : List D} {d : D} (h : funD Tg Zh9 m n Z5d Tryz.f130 ds = some d) : DataSem Tg 130 ds d := Zf (H := Zh9) (SpOk.cons Z1bz (SpOk.cons Z19z (SpOk.cons (fun _ _ h => by cases h) SpOk.nil))) mixed (InlOk.cons Tryz.func130 Zan (InlOk.cons Tryz.func144 Zq9 (InlOk.cons Tryz.func164 Zov (InlOk.cons Tryz.func190 Zqa (InlOk.cons Tryz.func167 Znw (InlOk.cons Tryz.func191 Zqb InlOk.nil)))))) Tryz.func130 Zan h
def Ztk : List D := [(D.agg [(D.v (.int .u8 (1 : Int))),(D.v (.string (ByteArray.mk #[104,116,116,112,58,47,47,97]))),(D.v (.bool false)),zU,(D.v (.string (ByteArray.mk #[]))),(D.list 0 (some 0) []),(D.v (.bool false)),zU,(D.v (.string (ByteArray.mk #[]))),(D.v (.int .u8 (0 : Int))),zU,zU,zU,zU,zU,zU,zU,zU,zU,zU,zU,zU,zU,zU,zU,zU,(D.list 0 (some 0) [])])]
def Ztl : D := zI
def Ztm : List D := [(D.agg [(D.v (.int .u8 (2 : Int))),(D.v (.string (ByteArray.mk #[]))),(D.v (.bool false)),zU,(D.v (.string (ByteArray.mk #[]))),(D.list 0 (some 0) []),(D.v (.bool true)),(D.v (.int .u32 (12 : Int))),(D.v (.string (ByteArray.mk #[98]))),(D.v (.int .u8 (0 : Int))),zU,zU,zU,zU,zU,zU,zU,zU,zU,zU,zU,zU,zU,zU,zU,zU,(D.list 0 (some 0) [])])]
def Ztn : D := zI
theorem Z15a : funD Tg Zh9 100000 60 Z5d Tryz.f130 Ztk = some Ztl := by kernel_rfl
theorem Z15b : funD Tg Zh9 100000 60 Z5d Tryz.f130 Ztm = some Ztn := by kernel_rfl
def Zqc (ds : List D) : Option D := if isT Ztk ds then some Ztl else (if isT Ztm ds then some Ztn else (none))
theorem Z1a0 : ∀ ds d,Zqc ds = some d → DataSem Tg 130 ds d := by
 intro ds d h
 unfold Zqc at h
 split at h
 ·rename_i ha; obtain rfl := isT_eq ha; cases h; exact Zom Z15a
 split at h
 ·rename_i ha; obtain rfl := isT_eq ha; cases h; exact Zom Z15b
 cases h
def Z6d : FnH := ⟨[(5,⟨(bm 16392 28),[(3,1)],some 1000000⟩)],[]⟩
theorem Z95 : Enters Tg 165 := ⟨Tryz.f165,Tryz.func165,by kernel_rfl,by kernel_rfl⟩
noncomputable def Zlg : Hints := ⟨[],[(165,Tryz.f165,Z6d)],[233,235,236,238,183]⟩
theorem Zy4 {m n : Nat} {ds : List D} {d : D} (h : funD Tg Zlg m n Z6d Tryz.f165 ds = some d) : DataSem Tg 165 ds d := Zf (H := Zlg) SpOk.nil mixed (InlOk.cons Tryz.func165 Z95 InlOk.nil) Tryz.func165 Z95 h
def Zrv : List D := [(D.agg [(D.v (.int .u32 (12 : Int))),(D.v (.string (ByteArray.mk #[98])))])]
def Zrw : D := (D.list 1 none [(D.v (.int .u8 (98 : Int)))])
theorem Z13i : funD Tg Zlg 100000 60 Z6d Tryz.f165 Zrv = some Zrw := by kernel_rfl
def Znx (ds : List D) : Option D := if isT Zrv ds then some Zrw else (none)
theorem Z17b : ∀ ds d,Znx ds = some d → DataSem Tg 165 ds d := by
 intro ds d h
 unfold Znx at h
 split at h
 ·rename_i ha; obtain rfl := isT_eq ha; cases h; exact Zy4 Z13i
 cases h
def Z8j : FnH := ⟨[],[]⟩
theorem Zfv : Enters Tg 147 := ⟨Tryz.f147,Tryz.func147,by kernel_rfl,by kernel_rfl⟩
noncomputable def Zsq : Hints := ⟨[(165,Znx)],[(147,Tryz.f147,Z8j)],[233,235,236,238,183]⟩
theorem Z13j {m n : Nat} {ds : List D} {d : D} (h : funD Tg Zsq m n Z8j Tryz.f147 ds = some d) : DataSem Tg 147 ds d := Zf (H := Zsq) (SpOk.cons Z17b SpOk.nil) mixed (InlOk.cons Tryz.func147 Zfv InlOk.nil) Tryz.func147 Zfv h
def Zy5 : List D := [(D.agg [(D.v (.int .u32 (12 : Int))),(D.v (.string (ByteArray.mk #[98])))])]
def Zy6 : D := (D.agg [(D.v (.int .u8 (0 : Int))),(D.v (.bool false)),(D.v (.int .u32 (12 : Int))),(D.list 1 none [(D.v (.int .u8 (98 : Int)))]),(D.list 0 (some 0) [])])
theorem Z1a1 : funD Tg Zsq 100000 60 Z8j Tryz.f147 Zy5 = some Zy6 := by kernel_rfl
def Zux (ds : List D) : Option D := if isT Zy5 ds then some Zy6 else (none)
theorem Z1ev : ∀ ds d,Zux ds = some d → DataSem Tg 147 ds d := by
 intro ds d h
 unfold Zux at h
 split at h
 ·rename_i ha; obtain rfl := isT_eq ha; cases h; exact Z13j Z1a1
 cases h
def Z7h : FnH := ⟨[(3,⟨(bm 26 32),[(3,1)],some 1000000⟩)],[]⟩
def Zqd : FnH := ⟨[(3,⟨(bm 9 22),[(3,1)],some 1000000⟩)],[]⟩
theorem Zih : Enters Tg 148 := ⟨Tryz.f148,Tryz.func148,by kernel_rfl,by kernel_rfl⟩
theorem Zqe : Enters Tg 166 := ⟨Tryz.f166,Tryz.func166,by kernel_rfl,by kernel_rfl⟩
noncomputable def Zow : Hints := ⟨[],[(148,Tryz.f148,Z7h),(166,Tryz.f166,Zqd)],[233,235,236,238,183]⟩
theorem Zto {m n : Nat} {ds : List D} {d : D} (h : funD Tg Zow m n Z7h Tryz.f148 ds = some d) : DataSem Tg 148 ds d := Zf (H := Zow) SpOk.nil mixed (InlOk.cons Tryz.func148 Zih (InlOk.cons Tryz.func166 Zqe InlOk.nil)) Tryz.func148 Zih h
def Z10f : List D := [(D.agg [(D.v (.int .u8 (9 : Int))),(D.v (.int .u32 (1 : Int))),(D.v (.int .u32 (3 : Int))),(D.v (.int .u32 (6 : Int))),(D.v (.int .u32 (1 : Int))),(D.v (.int .u32 (5 : Int))),(D.v (.int .u32 (5 : Int))),(D.v (.int .u32 (7 : Int))),(D.v (.int .u32 (2 : Int))),(D.v (.int .u32 (1 : Int))),zU,zU,zU,zU,zU,zU,zU])]
def Z10g : D := (D.list 8 none [(D.v (.int .u8 (43 : Int))),(D.v (.int .u8 (6 : Int))),(D.v (.int .u8 (1 : Int))),(D.v (.int .u8 (5 : Int))),(D.v (.int .u8 (5 : Int))),(D.v (.int .u8 (7 : Int))),(D.v (.int .u8 (2 : Int))),(D.v (.int .u8 (1 : Int)))])
def Z10h : List D := [(D.agg [(D.v (.int .u8 (9 : Int))),(D.v (.int .u32 (1 : Int))),(D.v (.int .u32 (3 : Int))),(D.v (.int .u32 (6 : Int))),(D.v (.int .u32 (1 : Int))),(D.v (.int .u32 (5 : Int))),(D.v (.int .u32 (5 : Int))),(D.v (.int .u32 (7 : Int))),(D.v (.int .u32 (2 : Int))),(D.v (.int .u32 (2 : Int))),zU,zU,zU,zU,zU,zU,zU])]
def Z10i : D := (D.list 8 none [(D.v (.int .u8 (43 : Int))),(D.v (.int .u8 (6 : Int))),(D.v (.int .u8 (1 : Int))),(D.v (.int .u8 (5 : Int))),(D.v (.int .u8 (5 : Int))),(D.v (.int .u8 (7 : Int))),(D.v (.int .u8 (2 : Int))),(D.v (.int .u8 (2 : Int)))])
theorem Z1c0 : funD Tg Zow 100000 60 Z7h Tryz.f148 Z10f = some Z10g := by kernel_rfl
theorem Z1c1 : funD Tg Zow 100000 60 Z7h Tryz.f148 Z10h = some Z10i := by kernel_rfl
def Zy7 (ds : List D) : Option D := if isT Z10f ds then some Z10g else (if isT Z10h ds then some Z10i else (none))
theorem Z1hj : ∀ ds d,Zy7 ds = some d → DataSem Tg 148 ds d := by
 intro ds d h
 unfold Zy7 at h
 split at h
 ·rename_i ha; obtain rfl := isT_eq ha; cases h; exact Zto Z1c0
 split at h
 ·rename_i ha; obtain rfl := isT_eq ha; cases h; exact Zto Z1c1
 cases h
def Z4u : FnH := ⟨[(14,⟨(bm 254 77),[(5,5),(6,5)],some 1000000⟩)],[]⟩
def Zox : FnH := ⟨[],[]⟩
def Zoy : FnH := ⟨[],[]⟩
def Zny : FnH := ⟨[(22,⟨(bm 7865353 147),[],some 1000000⟩)],[]⟩
def Zoz : FnH := ⟨[(7,⟨(bm 229 87),[],some 1000000⟩)],[]⟩
def Zni : FnH := ⟨[],[]⟩
def Zp0 : FnH := ⟨[(12,⟨(bm 225 59),[],some 1000000⟩)],[]⟩
theorem Z96 : Enters Tg 131 := ⟨Tryz.f131,Tryz.func131,by kernel_rfl,by kernel_rfl⟩
theorem Zp1 : Enters Tg 146 := ⟨Tryz.f146,Tryz.func146,by kernel_rfl,by kernel_rfl⟩
theorem Zp2 : Enters Tg 144 := ⟨Tryz.f144,Tryz.func144,by kernel_rfl,by kernel_rfl⟩
theorem Znz : Enters Tg 164 := ⟨Tryz.f164,Tryz.func164,by kernel_rfl,by kernel_rfl⟩
theorem Zp3 : Enters Tg 190 := ⟨Tryz.f190,Tryz.func190,by kernel_rfl,by kernel_rfl⟩
theorem Znj : Enters Tg 167 := ⟨Tryz.f167,Tryz.func167,by kernel_rfl,by kernel_rfl⟩
theorem Zp4 : Enters Tg 191 := ⟨Tryz.f191,Tryz.func191,by kernel_rfl,by kernel_rfl⟩
noncomputable def Zfh : Hints := ⟨[(143,Zuw),(147,Zux),(148,Zy7),(145,fun _ => none)],[(131,Tryz.f131,Z4u),(146,Tryz.f146,Zox),(144,Tryz.f144,Zoy),(164,Tryz.f164,Zny),(190,Tryz.f190,Zoz),(167,Tryz.f167,Zni),(191,Tryz.f191,Zp0)],[233,235,236,238,183]⟩
theorem Znk {m n : Nat} {ds : List D} {d : D} (h : funD Tg Zfh m n Z4u Tryz.f131 ds = some d) : DataSem Tg 131 ds d := Zf (H := Zfh) (SpOk.cons Z19z (SpOk.cons Z1ev (SpOk.cons Z1hj (SpOk.cons (fun _ _ h => by cases h) SpOk.nil)))) mixed (InlOk.cons Tryz.func131 Z96 (InlOk.cons Tryz.func146 Zp1 (InlOk.cons Tryz.func144 Zp2 (InlOk.cons Tryz.func164 Znz (InlOk.cons Tryz.func190 Zp3 (InlOk.cons Tryz.func167 Znj (InlOk.cons Tryz.func191 Zp4 InlOk.nil))))))) Tryz.func131 Z96 h
def Zrx : List D := [(D.agg [(D.v (.int .u8 (1 : Int))),(D.v (.string (ByteArray.mk #[104,116,116,112,58,47,47,97]))),(D.v (.bool false)),zU,(D.v (.string (ByteArray.mk #[]))),(D.list 0 (some 0) []),(D.v (.bool false)),zU,(D.v (.string (ByteArray.mk #[]))),(D.v (.int .u8 (0 : Int))),zU,zU,zU,zU,zU,zU,zU,zU,zU,zU,zU,zU,zU,zU,zU,zU,(D.list 0 (some 0) [])])]
def Zry : D := (D.agg [(D.v (.int .u8 (0 : Int))),(D.v (.bool true)),(D.v (.int .u32 (16 : Int))),(D.list 0 (some 0) []),(D.list 2 (some 2) [(D.v (.int .u8 (0 : Int))),(D.v (.bool false)),(D.v (.int .u32 (6 : Int))),(D.list 8 none [(D.v (.int .u8 (43 : Int))),(D.v (.int .u8 (6 : Int))),(D.v (.int .u8 (1 : Int))),(D.v (.int .u8 (5 : Int))),(D.v (.int .u8 (5 : Int))),(D.v (.int .u8 (7 : Int))),(D.v (.int .u8 (2 : Int))),(D.v (.int .u8 (1 : Int)))]),(D.list 0 (some 0) []),(D.v (.int .u8 (0 : Int))),(D.v (.bool false)),(D.v (.int .u32 (22 : Int))),(D.list 8 none [(D.v (.int .u8 (104 : Int))),(D.v (.int .u8 (116 : Int))),(D.v (.int .u8 (116 : Int))),(D.v (.int .u8 (112 : Int))),(D.v (.int .u8 (58 : Int))),(D.v (.int .u8 (47 : Int))),(D.v (.int .u8 (47 : Int))),(D.v (.int .u8 (97 : Int)))]),(D.list 0 (some 0) [])])])
def Zrz : List D := [(D.agg [(D.v (.int .u8 (2 : Int))),(D.v (.string (ByteArray.mk #[]))),(D.v (.bool false)),zU,(D.v (.string (ByteArray.mk #[]))),(D.list 0 (some 0) []),(D.v (.bool true)),(D.v (.int .u32 (12 : Int))),(D.v (.string (ByteArray.mk #[98]))),(D.v (.int .u8 (0 : Int))),zU,zU,zU,zU,zU,zU,zU,zU,zU,zU,zU,zU,zU,zU,zU,zU,(D.list 0 (some 0) [])])]
def Zs0 : D := (D.agg [(D.v (.int .u8 (0 : Int))),(D.v (.bool true)),(D.v (.int .u32 (16 : Int))),(D.list 0 (some 0) []),(D.list 2 (some 2) [(D.v (.int .u8 (0 : Int))),(D.v (.bool false)),(D.v (.int .u32 (6 : Int))),(D.list 8 none [(D.v (.int .u8 (43 : Int))),(D.v (.int .u8 (6 : Int))),(D.v (.int .u8 (1 : Int))),(D.v (.int .u8 (5 : Int))),(D.v (.int .u8 (5 : Int))),(D.v (.int .u8 (7 : Int))),(D.v (.int .u8 (2 : Int))),(D.v (.int .u8 (2 : Int)))]),(D.list 0 (some 0) []),(D.v (.int .u8 (0 : Int))),(D.v (.bool true)),(D.v (.int .u32 (16 : Int))),(D.list 0 (some 0) []),(D.list 1 none [(D.v (.int .u8 (0 : Int))),(D.v (.bool false)),(D.v (.int .u32 (12 : Int))),(D.list 1 none [(D.v (.int .u8 (98 : Int)))]),(D.list 0 (some 0) [])])])])
theorem Z13k : funD Tg Zfh 100000 60 Z4u Tryz.f131 Zrx = some Zry := by kernel_rfl
theorem Z13l : funD Tg Zfh 100000 60 Z4u Tryz.f131 Zrz = some Zs0 := by kernel_rfl
def Zo0 (ds : List D) : Option D := if isT Zrx ds then some Zry else (if isT Zrz ds then some Zs0 else (none))
theorem Z17c : ∀ ds d,Zo0 ds = some d → DataSem Tg 131 ds d := by
 intro ds d h
 unfold Zo0 at h
 split at h
 ·rename_i ha; obtain rfl := isT_eq ha; cases h; exact Znk Z13k
 split at h
 ·rename_i ha; obtain rfl := isT_eq ha; cases h; exact Znk Z13l
 cases h
def Z7i : FnH := ⟨[(3,⟨(bm 26 33),[(3,1)],some 1000000⟩)],[]⟩
def Ztp : FnH := ⟨[],[]⟩
def Zqf : FnH := ⟨[(3,⟨(bm 9 22),[(3,1)],some 1000000⟩)],[]⟩
def Ztq : FnH := ⟨[(4,⟨(bm 9 26),[(3,1)],some 1000000⟩)],[]⟩
theorem Zii : Enters Tg 133 := ⟨Tryz.f133,Tryz.func133,by kernel_rfl,by kernel_rfl⟩
theorem Ztr : Enters Tg 150 := ⟨Tryz.f150,Tryz.func150,by kernel_rfl,by kernel_rfl⟩
theorem Zqg : Enters Tg 166 := ⟨Tryz.f166,Tryz.func166,by kernel_rfl,by kernel_rfl⟩
theorem Zts : Enters Tg 151 := ⟨Tryz.f151,Tryz.func151,by kernel_rfl,by kernel_rfl⟩
noncomputable def Zp5 : Hints := ⟨[],[(133,Tryz.f133,Z7i),(150,Tryz.f150,Ztp),(166,Tryz.f166,Zqf),(151,Tryz.f151,Ztq)],[233,235,236,238,183]⟩
theorem Ztt {m n : Nat} {ds : List D} {d : D} (h : funD Tg Zp5 m n Z7i Tryz.f133 ds = some d) : DataSem Tg 133 ds d := Zf (H := Zp5) SpOk.nil mixed (InlOk.cons Tryz.func133 Zii (InlOk.cons Tryz.func150 Ztr (InlOk.cons Tryz.func166 Zqg (InlOk.cons Tryz.func151 Zts InlOk.nil)))) Tryz.func133 Zii h
def Z10j : List D := [(D.agg [(D.v (.int .u8 (0 : Int))),(D.v (.bool true)),(D.v (.int .u32 (16 : Int))),(D.list 0 (some 0) []),(D.list 2 (some 2) [(D.v (.int .u8 (0 : Int))),(D.v (.bool false)),(D.v (.int .u32 (6 : Int))),(D.list 8 none [(D.v (.int .u8 (43 : Int))),(D.v (.int .u8 (6 : Int))),(D.v (.int .u8 (1 : Int))),(D.v (.int .u8 (5 : Int))),(D.v (.int .u8 (5 : Int))),(D.v (.int .u8 (7 : Int))),(D.v (.int .u8 (2 : Int))),(D.v (.int .u8 (1 : Int)))]),(D.list 0 (some 0) []),(D.v (.int .u8 (0 : Int))),(D.v (.bool false)),(D.v (.int .u32 (22 : Int))),(D.list 8 none [(D.v (.int .u8 (104 : Int))),(D.v (.int .u8 (116 : Int))),(D.v (.int .u8 (116 : Int))),(D.v (.int .u8 (112 : Int))),(D.v (.int .u8 (58 : Int))),(D.v (.int .u8 (47 : Int))),(D.v (.int .u8 (47 : Int))),(D.v (.int .u8 (97 : Int)))]),(D.list 0 (some 0) [])])])]
def Z10k : D := (D.list 22 none [(D.v (.int .u8 (48 : Int))),(D.v (.int .u8 (20 : Int))),(D.v (.int .u8 (6 : Int))),(D.v (.int .u8 (8 : Int))),(D.v (.int .u8 (43 : Int))),(D.v (.int .u8 (6 : Int))),(D.v (.int .u8 (1 : Int))),(D.v (.int .u8 (5 : Int))),(D.v (.int .u8 (5 : Int))),(D.v (.int .u8 (7 : Int))),(D.v (.int .u8 (2 : Int))),(D.v (.int .u8 (1 : Int))),(D.v (.int .u8 (22 : Int))),(D.v (.int .u8 (8 : Int))),(D.v (.int .u8 (104 : Int))),(D.v (.int .u8 (116 : Int))),(D.v (.int .u8 (116 : Int))),(D.v (.int .u8 (112 : Int))),(D.v (.int .u8 (58 : Int))),(D.v (.int .u8 (47 : Int))),(D.v (.int .u8 (47 : Int))),(D.v (.int .u8 (97 : Int)))])
def Z10l : List D := [(D.agg [(D.v (.int .u8 (0 : Int))),(D.v (.bool true)),(D.v (.int .u32 (16 : Int))),(D.list 0 (some 0) []),(D.list 2 (some 2) [(D.v (.int .u8 (0 : Int))),(D.v (.bool false)),(D.v (.int .u32 (6 : Int))),(D.list 8 none [(D.v (.int .u8 (43 : Int))),(D.v (.int .u8 (6 : Int))),(D.v (.int .u8 (1 : Int))),(D.v (.int .u8 (5 : Int))),(D.v (.int .u8 (5 : Int))),(D.v (.int .u8 (7 : Int))),(D.v (.int .u8 (2 : Int))),(D.v (.int .u8 (2 : Int)))]),(D.list 0 (some 0) []),(D.v (.int .u8 (0 : Int))),(D.v (.bool true)),(D.v (.int .u32 (16 : Int))),(D.list 0 (some 0) []),(D.list 1 none [(D.v (.int .u8 (0 : Int))),(D.v (.bool false)),(D.v (.int .u32 (12 : Int))),(D.list 1 none [(D.v (.int .u8 (98 : Int)))]),(D.list 0 (some 0) [])])])])]
def Z10m : D := (D.list 17 none [(D.v (.int .u8 (48 : Int))),(D.v (.int .u8 (15 : Int))),(D.v (.int .u8 (6 : Int))),(D.v (.int .u8 (8 : Int))),(D.v (.int .u8 (43 : Int))),(D.v (.int .u8 (6 : Int))),(D.v (.int .u8 (1 : Int))),(D.v (.int .u8 (5 : Int))),(D.v (.int .u8 (5 : Int))),(D.v (.int .u8 (7 : Int))),(D.v (.int .u8 (2 : Int))),(D.v (.int .u8 (2 : Int))),(D.v (.int .u8 (48 : Int))),(D.v (.int .u8 (3 : Int))),(D.v (.int .u8 (12 : Int))),(D.v (.int .u8 (1 : Int))),(D.v (.int .u8 (98 : Int)))])
theorem Z1c2 : funD Tg Zp5 100000 60 Z7i Tryz.f133 Z10j = some Z10k := by kernel_rfl
theorem Z1c3 : funD Tg Zp5 100000 60 Z7i Tryz.f133 Z10l = some Z10m := by kernel_rfl
def Zy8 (ds : List D) : Option D := if isT Z10j ds then some Z10k else (if isT Z10l ds then some Z10m else (none))
theorem Z1hk : ∀ ds d,Zy8 ds = some d → DataSem Tg 133 ds d := by
 intro ds d h
 unfold Zy8 at h
 split at h
 ·rename_i ha; obtain rfl := isT_eq ha; cases h; exact Ztt Z1c2
 split at h
 ·rename_i ha; obtain rfl := isT_eq ha; cases h; exact Ztt Z1c3
 cases h
def Z5p : FnH := ⟨[(12,⟨(bm 1546 70),[],some 1000000⟩)],[]⟩
def Zp6 : FnH := ⟨[],[]⟩
theorem Zco : Enters Tg 149 := ⟨Tryz.f149,Tryz.func149,by kernel_rfl,by kernel_rfl⟩
theorem Zp7 : Enters Tg 167 := ⟨Tryz.f167,Tryz.func167,by kernel_rfl,by kernel_rfl⟩
noncomputable def Zjl : Hints := ⟨[],[(149,Tryz.f149,Z5p),(167,Tryz.f167,Zp6)],[233,235,236,238,183]⟩
theorem Zqh {m n : Nat} {ds : List D} {d : D} (h : funD Tg Zjl m n Z5p Tryz.f149 ds = some d) : DataSem Tg 149 ds d := Zf (H := Zjl) SpOk.nil mixed (InlOk.cons Tryz.func149 Zco (InlOk.cons Tryz.func167 Zp7 InlOk.nil)) Tryz.func149 Zco h
def Zw6 : List D := [(D.agg [(D.v (.int .u8 (0 : Int))),(D.v (.bool true)),(D.v (.int .u32 (16 : Int))),(D.list 0 (some 0) []),(D.list 2 (some 2) [(D.v (.int .u8 (0 : Int))),(D.v (.bool false)),(D.v (.int .u32 (6 : Int))),(D.list 8 none [(D.v (.int .u8 (43 : Int))),(D.v (.int .u8 (6 : Int))),(D.v (.int .u8 (1 : Int))),(D.v (.int .u8 (5 : Int))),(D.v (.int .u8 (5 : Int))),(D.v (.int .u8 (7 : Int))),(D.v (.int .u8 (2 : Int))),(D.v (.int .u8 (1 : Int)))]),(D.list 0 (some 0) []),(D.v (.int .u8 (0 : Int))),(D.v (.bool false)),(D.v (.int .u32 (22 : Int))),(D.list 8 none [(D.v (.int .u8 (104 : Int))),(D.v (.int .u8 (116 : Int))),(D.v (.int .u8 (116 : Int))),(D.v (.int .u8 (112 : Int))),(D.v (.int .u8 (58 : Int))),(D.v (.int .u8 (47 : Int))),(D.v (.int .u8 (47 : Int))),(D.v (.int .u8 (97 : Int)))]),(D.list 0 (some 0) [])])]),(D.v (.int .i64 (1 : Int))),zI]
def Zw7 : D := (D.tup [zI,(D.v (.int .i64 (3 : Int)))])
def Zw8 : List D := [(D.agg [(D.v (.int .u8 (0 : Int))),(D.v (.bool true)),(D.v (.int .u32 (16 : Int))),(D.list 0 (some 0) []),(D.list 2 (some 2) [(D.v (.int .u8 (0 : Int))),(D.v (.bool false)),(D.v (.int .u32 (6 : Int))),(D.list 8 none [(D.v (.int .u8 (43 : Int))),(D.v (.int .u8 (6 : Int))),(D.v (.int .u8 (1 : Int))),(D.v (.int .u8 (5 : Int))),(D.v (.int .u8 (5 : Int))),(D.v (.int .u8 (7 : Int))),(D.v (.int .u8 (2 : Int))),(D.v (.int .u8 (2 : Int)))]),(D.list 0 (some 0) []),(D.v (.int .u8 (0 : Int))),(D.v (.bool true)),(D.v (.int .u32 (16 : Int))),(D.list 0 (some 0) []),(D.list 1 none [(D.v (.int .u8 (0 : Int))),(D.v (.bool false)),(D.v (.int .u32 (12 : Int))),(D.list 1 none [(D.v (.int .u8 (98 : Int)))]),(D.list 0 (some 0) [])])])]),(D.v (.int .i64 (1 : Int))),zI]
def Zw9 : D := (D.tup [zI,(D.v (.int .i64 (4 : Int)))])
theorem Z17d : funD Tg Zjl 100000 60 Z5p Tryz.f149 Zw6 = some Zw7 := by kernel_rfl
theorem Z17e : funD Tg Zjl 100000 60 Z5p Tryz.f149 Zw8 = some Zw9 := by kernel_rfl
def Zsr (ds : List D) : Option D := if isT Zw6 ds then some Zw7 else (if isT Zw8 ds then some Zw9 else (none))
theorem Z1c4 : ∀ ds d,Zsr ds = some d → DataSem Tg 149 ds d := by
 intro ds d h
 unfold Zsr at h
 split at h
 ·rename_i ha; obtain rfl := isT_eq ha; cases h; exact Zqh Z17d
 split at h
 ·rename_i ha; obtain rfl := isT_eq ha; cases h; exact Zqh Z17e
 cases h
def Z5q : FnH := ⟨[],[]⟩
def Zp8 : FnH := ⟨[],[]⟩
theorem Zcp : Enters Tg 104 := ⟨Tryz.f104,Tryz.func104,by kernel_rfl,by kernel_rfl⟩
theorem Zp9 : Enters Tg 132 := ⟨Tryz.f132,Tryz.func132,by kernel_rfl,by kernel_rfl⟩
noncomputable def Zjm : Hints := ⟨[(129,Zuv),(130,Zqc),(131,Zo0),(133,Zy8),(149,Zsr)],[(104,Tryz.f104,Z5q),(132,Tryz.f132,Zp8)],[233,235,236,238,183]⟩
theorem Zqi {m n : Nat} {ds : List D} {d : D} (h : funD Tg Zjm m n Z5q Tryz.f104 ds = some d) : DataSem Tg 104 ds d := Zf (H := Zjm) (SpOk.cons Z1es (SpOk.cons Z1a0 (SpOk.cons Z17c (SpOk.cons Z1hk (SpOk.cons Z1c4 SpOk.nil))))) mixed (InlOk.cons Tryz.func104 Zcp (InlOk.cons Tryz.func132 Zp9 InlOk.nil)) Tryz.func104 Zcp h
def Zwa : List D := [(D.agg [(D.v (.int .u8 (1 : Int))),(D.v (.string (ByteArray.mk #[104,116,116,112,58,47,47,97]))),(D.v (.bool false)),zU,(D.v (.string (ByteArray.mk #[]))),(D.list 0 (some 0) []),(D.v (.bool false)),zU,(D.v (.string (ByteArray.mk #[]))),(D.v (.int .u8 (0 : Int))),zU,zU,zU,zU,zU,zU,zU,zU,zU,zU,zU,zU,zU,zU,zU,zU,(D.list 0 (some 0) [])])]
def Zwb : D := zI
def Zwc : List D := [(D.agg [(D.v (.int .u8 (2 : Int))),(D.v (.string (ByteArray.mk #[]))),(D.v (.bool false)),zU,(D.v (.string (ByteArray.mk #[]))),(D.list 0 (some 0) []),(D.v (.bool true)),(D.v (.int .u32 (12 : Int))),(D.v (.string (ByteArray.mk #[98]))),(D.v (.int .u8 (0 : Int))),zU,zU,zU,zU,zU,zU,zU,zU,zU,zU,zU,zU,zU,zU,zU,zU,(D.list 0 (some 0) [])])]
def Zwd : D := zI
theorem Z17f : funD Tg Zjm 100000 60 Z5q Tryz.f104 Zwa = some Zwb := by kernel_rfl
theorem Z17g : funD Tg Zjm 100000 60 Z5q Tryz.f104 Zwc = some Zwd := by kernel_rfl
def Zgs (ds : List D) : Option D := if isT Zwa ds then some Zwb else (if isT Zwc ds then some Zwd else (none))
theorem Z1c5 : ∀ ds d,Zgs ds = some d → DataSem Tg 104 ds d := by
 intro ds d h
 unfold Zgs at h
 split at h
 ·rename_i ha; obtain rfl := isT_eq ha; cases h; exact Zqi Z17f
 split at h
 ·rename_i ha; obtain rfl := isT_eq ha; cases h; exact Zqi Z17g
 cases h
end Go.Ev