/- Closed calls of the reference at the two qualifiers of the examples. No conditions. -/
import Derived.Test.YtkefahdbckjajaaGreatDoorEzI
set_option linter.unusedVariables false
set_option maxRecDepth 1000000
namespace Go.Ev
open Go Go.Proofs
def Z61 : FnH := ⟨[],[]⟩
theorem Zff : Enters Tg 129 := ⟨Tryz.f129,Tryz.func129,by kernel_rfl,by kernel_rfl⟩
noncomputable def Zll : Hints := ⟨[],[(129,Tryz.f129,Z61)],[233,235,236,238,183]⟩
theorem Zrd {m n : Nat} {ds : List D} {d : D} (h : funD Tg Zll m n Z61 Tryz.f129 ds = some d) : DataSem Tg 129 ds d := Z8 (H := Zll) SpOk.nil mixed (InlOk.cons Tryz.func129 Zff InlOk.nil) Tryz.func129 Zff h
def Zx5 : List D := [(D.agg [(D.v (.int .u8 (1 : Int))),(D.v (.string (ByteArray.mk #[104,116,116,112,58,47,47,97]))),(D.v (.bool false)),zU,(D.v (.string (ByteArray.mk #[]))),(D.list 0 (some 0) []),(D.v (.bool false)),zU,(D.v (.string (ByteArray.mk #[]))),(D.v (.int .u8 (0 : Int))),zU,zU,zU,zU,zU,zU,zU,zU,zU,zU,zU,zU,zU,zU,zU,zU,(D.list 0 (some 0) [])])]
def Zx6 : D := (D.v (.bool true))
def Zx7 : List D := [(D.agg [(D.v (.int .u8 (2 : Int))),(D.v (.string (ByteArray.mk #[]))),(D.v (.bool false)),zU,(D.v (.string (ByteArray.mk #[]))),(D.list 0 (some 0) []),(D.v (.bool true)),(D.v (.int .u32 (12 : Int))),(D.v (.string (ByteArray.mk #[98]))),(D.v (.int .u8 (0 : Int))),zU,zU,zU,zU,zU,zU,zU,zU,zU,zU,zU,zU,zU,zU,zU,zU,(D.list 0 (some 0) [])])]
def Zx8 : D := (D.v (.bool true))
theorem Z197 : funD Tg Zll 100000 60 Z61 Tryz.f129 Zx5 = some Zx6 := by kernel_rfl
theorem Z198 : funD Tg Zll 100000 60 Z61 Tryz.f129 Zx7 = some Zx8 := by kernel_rfl
def Zu8 (ds : List D) : Option D := if isT Zx5 ds then some Zx6 else (if isT Zx7 ds then some Zx8 else (none))
theorem Z1dx : ∀ ds d,Zu8 ds = some d → DataSem Tg 129 ds d := by
  intro ds d h
  unfold Zu8 at h
  split at h
  · rename_i ha; obtain rfl := isT_eq ha; cases h; exact Zrd Z197
  split at h
  · rename_i ha; obtain rfl := isT_eq ha; cases h; exact Zrd Z198
  cases h

def Z7d : FnH := ⟨[(9,⟨(bm 17179869194 77),[],some 1000000⟩)],[]⟩
def Zj4 : FnH := ⟨[(1,⟨(bm 1 169),[],none⟩),(9,⟨(bm 1 169),[],none⟩)],[]⟩
def Zj5 : FnH := ⟨[],[]⟩
theorem Zc4 : Enters Tg 142 := ⟨Tryz.f142,Tryz.func142,by kernel_rfl,by kernel_rfl⟩
theorem Zj6 : Enters Tg 163 := ⟨Tryz.f163,Tryz.func163,by kernel_rfl,by kernel_rfl⟩
theorem Zj7 : Enters Tg 189 := ⟨Tryz.f189,Tryz.func189,by kernel_rfl,by kernel_rfl⟩
noncomputable def Zpr : Hints := ⟨[],[(142,Tryz.f142,Z7d),(163,Tryz.f163,Zj4),(189,Tryz.f189,Zj5)],[233,235,236,238,183]⟩
theorem Z10a {m n : Nat} {ds : List D} {d : D} (h : funD Tg Zpr m n Z7d Tryz.f142 ds = some d) : DataSem Tg 142 ds d := Z8 (H := Zpr) SpOk.nil mixed (InlOk.cons Tryz.func142 Zc4 (InlOk.cons Tryz.func163 Zj6 (InlOk.cons Tryz.func189 Zj7 InlOk.nil))) Tryz.func142 Zc4 h
def Zva : List D := [(D.agg [(D.v (.int .u32 (12 : Int))),(D.v (.string (ByteArray.mk #[98])))])]
def Zvb : D := zI
theorem Z16f : funD Tg Zpr 100000 60 Z7d Tryz.f142 Zva = some Zvb := by kernel_rfl
def Zs9 (ds : List D) : Option D := if isT Zva ds then some Zvb else (none)
theorem Z1b7 : ∀ ds d,Zs9 ds = some d → DataSem Tg 142 ds d := by
  intro ds d h
  unfold Zs9 at h
  split at h
  · rename_i ha; obtain rfl := isT_eq ha; cases h; exact Z10a Z16f
  cases h

def Z7z : FnH := ⟨[],[]⟩
theorem Zku : Enters Tg 143 := ⟨Tryz.f143,Tryz.func143,by kernel_rfl,by kernel_rfl⟩
noncomputable def Zre : Hints := ⟨[],[(143,Tryz.f143,Z7z)],[233,235,236,238,183]⟩
theorem Zvc {m n : Nat} {ds : List D} {d : D} (h : funD Tg Zre m n Z7z Tryz.f143 ds = some d) : DataSem Tg 143 ds d := Z8 (H := Zre) SpOk.nil mixed (InlOk.cons Tryz.func143 Zku InlOk.nil) Tryz.func143 Zku h
def Z12g : List D := [(D.v (.int .u32 (1 : Int)))]
def Z12h : D := (D.agg [(D.v (.int .u8 (9 : Int))),(D.v (.int .u32 (1 : Int))),(D.v (.int .u32 (3 : Int))),(D.v (.int .u32 (6 : Int))),(D.v (.int .u32 (1 : Int))),(D.v (.int .u32 (5 : Int))),(D.v (.int .u32 (5 : Int))),(D.v (.int .u32 (7 : Int))),(D.v (.int .u32 (2 : Int))),(D.v (.int .u32 (1 : Int))),zU,zU,zU,zU,zU,zU,zU])
def Z12i : List D := [(D.v (.int .u32 (2 : Int)))]
def Z12j : D := (D.agg [(D.v (.int .u8 (9 : Int))),(D.v (.int .u32 (1 : Int))),(D.v (.int .u32 (3 : Int))),(D.v (.int .u32 (6 : Int))),(D.v (.int .u32 (1 : Int))),(D.v (.int .u32 (5 : Int))),(D.v (.int .u32 (5 : Int))),(D.v (.int .u32 (7 : Int))),(D.v (.int .u32 (2 : Int))),(D.v (.int .u32 (2 : Int))),zU,zU,zU,zU,zU,zU,zU])
theorem Z1dy : funD Tg Zre 100000 60 Z7z Tryz.f143 Z12g = some Z12h := by kernel_rfl
theorem Z1dz : funD Tg Zre 100000 60 Z7z Tryz.f143 Z12i = some Z12j := by kernel_rfl
def Zu9 (ds : List D) : Option D := if isT Z12g ds then some Z12h else (if isT Z12i ds then some Z12j else (none))
theorem Z199 : ∀ ds d,Zu9 ds = some d → DataSem Tg 143 ds d := by
  intro ds d h
  unfold Zu9 at h
  split at h
  · rename_i ha; obtain rfl := isT_eq ha; cases h; exact Zvc Z1dy
  split at h
  · rename_i ha; obtain rfl := isT_eq ha; cases h; exact Zvc Z1dz
  cases h

def Z4w : FnH := ⟨[(6,⟨(bm 10 76),[],some 1000000⟩)],[]⟩
def Zps : FnH := ⟨[],[]⟩
def Zoi : FnH := ⟨[(22,⟨(bm 7865353 147),[],some 1000000⟩)],[]⟩
def Zpt : FnH := ⟨[(7,⟨(bm 229 87),[],some 1000000⟩)],[]⟩
def Zng : FnH := ⟨[],[]⟩
def Zpu : FnH := ⟨[(12,⟨(bm 225 59),[],some 1000000⟩)],[]⟩
theorem Za7 : Enters Tg 130 := ⟨Tryz.f130,Tryz.func130,by kernel_rfl,by kernel_rfl⟩
theorem Zpv : Enters Tg 144 := ⟨Tryz.f144,Tryz.func144,by kernel_rfl,by kernel_rfl⟩
theorem Zoj : Enters Tg 164 := ⟨Tryz.f164,Tryz.func164,by kernel_rfl,by kernel_rfl⟩
theorem Zpw : Enters Tg 190 := ⟨Tryz.f190,Tryz.func190,by kernel_rfl,by kernel_rfl⟩
theorem Znh : Enters Tg 167 := ⟨Tryz.f167,Tryz.func167,by kernel_rfl,by kernel_rfl⟩
theorem Zpx : Enters Tg 191 := ⟨Tryz.f191,Tryz.func191,by kernel_rfl,by kernel_rfl⟩
noncomputable def Zgv : Hints := ⟨[(142,Zs9),(143,Zu9),(91,fun _ => none)],[(130,Tryz.f130,Z4w),(144,Tryz.f144,Zps),(164,Tryz.f164,Zoi),(190,Tryz.f190,Zpt),(167,Tryz.f167,Zng),(191,Tryz.f191,Zpu)],[233,235,236,238,183]⟩
theorem Zo9 {m n : Nat} {ds : List D} {d : D} (h : funD Tg Zgv m n Z4w Tryz.f130 ds = some d) : DataSem Tg 130 ds d := Z8 (H := Zgv) (SpOk.cons Z1b7 (SpOk.cons Z199 (SpOk.cons (fun _ _ h => by cases h) SpOk.nil))) mixed (InlOk.cons Tryz.func130 Za7 (InlOk.cons Tryz.func144 Zpv (InlOk.cons Tryz.func164 Zoj (InlOk.cons Tryz.func190 Zpw (InlOk.cons Tryz.func167 Znh (InlOk.cons Tryz.func191 Zpx InlOk.nil)))))) Tryz.func130 Za7 h
def Zt2 : List D := [(D.agg [(D.v (.int .u8 (1 : Int))),(D.v (.string (ByteArray.mk #[104,116,116,112,58,47,47,97]))),(D.v (.bool false)),zU,(D.v (.string (ByteArray.mk #[]))),(D.list 0 (some 0) []),(D.v (.bool false)),zU,(D.v (.string (ByteArray.mk #[]))),(D.v (.int .u8 (0 : Int))),zU,zU,zU,zU,zU,zU,zU,zU,zU,zU,zU,zU,zU,zU,zU,zU,(D.list 0 (some 0) [])])]
def Zt3 : D := zI
def Zt4 : List D := [(D.agg [(D.v (.int .u8 (2 : Int))),(D.v (.string (ByteArray.mk #[]))),(D.v (.bool false)),zU,(D.v (.string (ByteArray.mk #[]))),(D.list 0 (some 0) []),(D.v (.bool true)),(D.v (.int .u32 (12 : Int))),(D.v (.string (ByteArray.mk #[98]))),(D.v (.int .u8 (0 : Int))),zU,zU,zU,zU,zU,zU,zU,zU,zU,zU,zU,zU,zU,zU,zU,zU,(D.list 0 (some 0) [])])]
def Zt5 : D := zI
theorem Z14c : funD Tg Zgv 100000 60 Z4w Tryz.f130 Zt2 = some Zt3 := by kernel_rfl
theorem Z14d : funD Tg Zgv 100000 60 Z4w Tryz.f130 Zt4 = some Zt5 := by kernel_rfl
def Zpy (ds : List D) : Option D := if isT Zt2 ds then some Zt3 else (if isT Zt4 ds then some Zt5 else (none))
theorem Z19a : ∀ ds d,Zpy ds = some d → DataSem Tg 130 ds d := by
  intro ds d h
  unfold Zpy at h
  split at h
  · rename_i ha; obtain rfl := isT_eq ha; cases h; exact Zo9 Z14c
  split at h
  · rename_i ha; obtain rfl := isT_eq ha; cases h; exact Zo9 Z14d
  cases h

def Z5z : FnH := ⟨[(5,⟨(bm 16392 28),[(3,1)],some 1000000⟩)],[]⟩
theorem Z8q : Enters Tg 165 := ⟨Tryz.f165,Tryz.func165,by kernel_rfl,by kernel_rfl⟩
noncomputable def Zl0 : Hints := ⟨[],[(165,Tryz.f165,Z5z)],[233,235,236,238,183]⟩
theorem Zx9 {m n : Nat} {ds : List D} {d : D} (h : funD Tg Zl0 m n Z5z Tryz.f165 ds = some d) : DataSem Tg 165 ds d := Z8 (H := Zl0) SpOk.nil mixed (InlOk.cons Tryz.func165 Z8q InlOk.nil) Tryz.func165 Z8q h
def Zrf : List D := [(D.agg [(D.v (.int .u32 (12 : Int))),(D.v (.string (ByteArray.mk #[98])))])]
def Zrg : D := (D.list 1 none [(D.v (.int .u8 (98 : Int)))])
theorem Z12k : funD Tg Zl0 100000 60 Z5z Tryz.f165 Zrf = some Zrg := by kernel_rfl
def Zni (ds : List D) : Option D := if isT Zrf ds then some Zrg else (none)
theorem Z16g : ∀ ds d,Zni ds = some d → DataSem Tg 165 ds d := by
  intro ds d h
  unfold Zni at h
  split at h
  · rename_i ha; obtain rfl := isT_eq ha; cases h; exact Zx9 Z12k
  cases h

def Z86 : FnH := ⟨[],[]⟩
theorem Zfg : Enters Tg 147 := ⟨Tryz.f147,Tryz.func147,by kernel_rfl,by kernel_rfl⟩
noncomputable def Zsa : Hints := ⟨[(165,Zni)],[(147,Tryz.f147,Z86)],[233,235,236,238,183]⟩
theorem Z12l {m n : Nat} {ds : List D} {d : D} (h : funD Tg Zsa m n Z86 Tryz.f147 ds = some d) : DataSem Tg 147 ds d := Z8 (H := Zsa) (SpOk.cons Z16g SpOk.nil) mixed (InlOk.cons Tryz.func147 Zfg InlOk.nil) Tryz.func147 Zfg h
def Zxa : List D := [(D.agg [(D.v (.int .u32 (12 : Int))),(D.v (.string (ByteArray.mk #[98])))])]
def Zxb : D := (D.agg [(D.v (.int .u8 (0 : Int))),(D.v (.bool false)),(D.v (.int .u32 (12 : Int))),(D.list 1 none [(D.v (.int .u8 (98 : Int)))]),(D.list 0 (some 0) [])])
theorem Z19b : funD Tg Zsa 100000 60 Z86 Tryz.f147 Zxa = some Zxb := by kernel_rfl
def Zua (ds : List D) : Option D := if isT Zxa ds then some Zxb else (none)
theorem Z1e0 : ∀ ds d,Zua ds = some d → DataSem Tg 147 ds d := by
  intro ds d h
  unfold Zua at h
  split at h
  · rename_i ha; obtain rfl := isT_eq ha; cases h; exact Z12l Z19b
  cases h

def Z74 : FnH := ⟨[(3,⟨(bm 26 32),[(3,1)],some 1000000⟩)],[]⟩
def Zpz : FnH := ⟨[(3,⟨(bm 9 22),[(3,1)],some 1000000⟩)],[]⟩
theorem Zi3 : Enters Tg 148 := ⟨Tryz.f148,Tryz.func148,by kernel_rfl,by kernel_rfl⟩
theorem Zq0 : Enters Tg 166 := ⟨Tryz.f166,Tryz.func166,by kernel_rfl,by kernel_rfl⟩
noncomputable def Zok : Hints := ⟨[],[(148,Tryz.f148,Z74),(166,Tryz.f166,Zpz)],[233,235,236,238,183]⟩
theorem Zt6 {m n : Nat} {ds : List D} {d : D} (h : funD Tg Zok m n Z74 Tryz.f148 ds = some d) : DataSem Tg 148 ds d := Z8 (H := Zok) SpOk.nil mixed (InlOk.cons Tryz.func148 Zi3 (InlOk.cons Tryz.func166 Zq0 InlOk.nil)) Tryz.func148 Zi3 h
def Zzi : List D := [(D.agg [(D.v (.int .u8 (9 : Int))),(D.v (.int .u32 (1 : Int))),(D.v (.int .u32 (3 : Int))),(D.v (.int .u32 (6 : Int))),(D.v (.int .u32 (1 : Int))),(D.v (.int .u32 (5 : Int))),(D.v (.int .u32 (5 : Int))),(D.v (.int .u32 (7 : Int))),(D.v (.int .u32 (2 : Int))),(D.v (.int .u32 (1 : Int))),zU,zU,zU,zU,zU,zU,zU])]
def Zzj : D := (D.list 8 none [(D.v (.int .u8 (43 : Int))),(D.v (.int .u8 (6 : Int))),(D.v (.int .u8 (1 : Int))),(D.v (.int .u8 (5 : Int))),(D.v (.int .u8 (5 : Int))),(D.v (.int .u8 (7 : Int))),(D.v (.int .u8 (2 : Int))),(D.v (.int .u8 (1 : Int)))])
def Zzk : List D := [(D.agg [(D.v (.int .u8 (9 : Int))),(D.v (.int .u32 (1 : Int))),(D.v (.int .u32 (3 : Int))),(D.v (.int .u32 (6 : Int))),(D.v (.int .u32 (1 : Int))),(D.v (.int .u32 (5 : Int))),(D.v (.int .u32 (5 : Int))),(D.v (.int .u32 (7 : Int))),(D.v (.int .u32 (2 : Int))),(D.v (.int .u32 (2 : Int))),zU,zU,zU,zU,zU,zU,zU])]
def Zzl : D := (D.list 8 none [(D.v (.int .u8 (43 : Int))),(D.v (.int .u8 (6 : Int))),(D.v (.int .u8 (1 : Int))),(D.v (.int .u8 (5 : Int))),(D.v (.int .u8 (5 : Int))),(D.v (.int .u8 (7 : Int))),(D.v (.int .u8 (2 : Int))),(D.v (.int .u8 (2 : Int)))])
theorem Z1b8 : funD Tg Zok 100000 60 Z74 Tryz.f148 Zzi = some Zzj := by kernel_rfl
theorem Z1b9 : funD Tg Zok 100000 60 Z74 Tryz.f148 Zzk = some Zzl := by kernel_rfl
def Zxc (ds : List D) : Option D := if isT Zzi ds then some Zzj else (if isT Zzk ds then some Zzl else (none))
theorem Z1gj : ∀ ds d,Zxc ds = some d → DataSem Tg 148 ds d := by
  intro ds d h
  unfold Zxc at h
  split at h
  · rename_i ha; obtain rfl := isT_eq ha; cases h; exact Zt6 Z1b8
  split at h
  · rename_i ha; obtain rfl := isT_eq ha; cases h; exact Zt6 Z1b9
  cases h

def Z4g : FnH := ⟨[(14,⟨(bm 254 77),[(5,5),(6,5)],some 1000000⟩)],[]⟩
def Zol : FnH := ⟨[],[]⟩
def Zom : FnH := ⟨[],[]⟩
def Znj : FnH := ⟨[(22,⟨(bm 7865353 147),[],some 1000000⟩)],[]⟩
def Zon : FnH := ⟨[(7,⟨(bm 229 87),[],some 1000000⟩)],[]⟩
def Zn2 : FnH := ⟨[],[]⟩
def Zoo : FnH := ⟨[(12,⟨(bm 225 59),[],some 1000000⟩)],[]⟩
theorem Z8r : Enters Tg 131 := ⟨Tryz.f131,Tryz.func131,by kernel_rfl,by kernel_rfl⟩
theorem Zop : Enters Tg 146 := ⟨Tryz.f146,Tryz.func146,by kernel_rfl,by kernel_rfl⟩
theorem Zoq : Enters Tg 144 := ⟨Tryz.f144,Tryz.func144,by kernel_rfl,by kernel_rfl⟩
theorem Znk : Enters Tg 164 := ⟨Tryz.f164,Tryz.func164,by kernel_rfl,by kernel_rfl⟩
theorem Zor : Enters Tg 190 := ⟨Tryz.f190,Tryz.func190,by kernel_rfl,by kernel_rfl⟩
theorem Zn3 : Enters Tg 167 := ⟨Tryz.f167,Tryz.func167,by kernel_rfl,by kernel_rfl⟩
theorem Zos : Enters Tg 191 := ⟨Tryz.f191,Tryz.func191,by kernel_rfl,by kernel_rfl⟩
noncomputable def Zf1 : Hints := ⟨[(143,Zu9),(147,Zua),(148,Zxc),(145,fun _ => none)],[(131,Tryz.f131,Z4g),(146,Tryz.f146,Zol),(144,Tryz.f144,Zom),(164,Tryz.f164,Znj),(190,Tryz.f190,Zon),(167,Tryz.f167,Zn2),(191,Tryz.f191,Zoo)],[233,235,236,238,183]⟩
theorem Zn4 {m n : Nat} {ds : List D} {d : D} (h : funD Tg Zf1 m n Z4g Tryz.f131 ds = some d) : DataSem Tg 131 ds d := Z8 (H := Zf1) (SpOk.cons Z199 (SpOk.cons Z1e0 (SpOk.cons Z1gj (SpOk.cons (fun _ _ h => by cases h) SpOk.nil)))) mixed (InlOk.cons Tryz.func131 Z8r (InlOk.cons Tryz.func146 Zop (InlOk.cons Tryz.func144 Zoq (InlOk.cons Tryz.func164 Znk (InlOk.cons Tryz.func190 Zor (InlOk.cons Tryz.func167 Zn3 (InlOk.cons Tryz.func191 Zos InlOk.nil))))))) Tryz.func131 Z8r h
def Zrh : List D := [(D.agg [(D.v (.int .u8 (1 : Int))),(D.v (.string (ByteArray.mk #[104,116,116,112,58,47,47,97]))),(D.v (.bool false)),zU,(D.v (.string (ByteArray.mk #[]))),(D.list 0 (some 0) []),(D.v (.bool false)),zU,(D.v (.string (ByteArray.mk #[]))),(D.v (.int .u8 (0 : Int))),zU,zU,zU,zU,zU,zU,zU,zU,zU,zU,zU,zU,zU,zU,zU,zU,(D.list 0 (some 0) [])])]
def Zri : D := (D.agg [(D.v (.int .u8 (0 : Int))),(D.v (.bool true)),(D.v (.int .u32 (16 : Int))),(D.list 0 (some 0) []),(D.list 2 (some 2) [(D.v (.int .u8 (0 : Int))),(D.v (.bool false)),(D.v (.int .u32 (6 : Int))),(D.list 8 none [(D.v (.int .u8 (43 : Int))),(D.v (.int .u8 (6 : Int))),(D.v (.int .u8 (1 : Int))),(D.v (.int .u8 (5 : Int))),(D.v (.int .u8 (5 : Int))),(D.v (.int .u8 (7 : Int))),(D.v (.int .u8 (2 : Int))),(D.v (.int .u8 (1 : Int)))]),(D.list 0 (some 0) []),(D.v (.int .u8 (0 : Int))),(D.v (.bool false)),(D.v (.int .u32 (22 : Int))),(D.list 8 none [(D.v (.int .u8 (104 : Int))),(D.v (.int .u8 (116 : Int))),(D.v (.int .u8 (116 : Int))),(D.v (.int .u8 (112 : Int))),(D.v (.int .u8 (58 : Int))),(D.v (.int .u8 (47 : Int))),(D.v (.int .u8 (47 : Int))),(D.v (.int .u8 (97 : Int)))]),(D.list 0 (some 0) [])])])
def Zrj : List D := [(D.agg [(D.v (.int .u8 (2 : Int))),(D.v (.string (ByteArray.mk #[]))),(D.v (.bool false)),zU,(D.v (.string (ByteArray.mk #[]))),(D.list 0 (some 0) []),(D.v (.bool true)),(D.v (.int .u32 (12 : Int))),(D.v (.string (ByteArray.mk #[98]))),(D.v (.int .u8 (0 : Int))),zU,zU,zU,zU,zU,zU,zU,zU,zU,zU,zU,zU,zU,zU,zU,zU,(D.list 0 (some 0) [])])]
def Zrk : D := (D.agg [(D.v (.int .u8 (0 : Int))),(D.v (.bool true)),(D.v (.int .u32 (16 : Int))),(D.list 0 (some 0) []),(D.list 2 (some 2) [(D.v (.int .u8 (0 : Int))),(D.v (.bool false)),(D.v (.int .u32 (6 : Int))),(D.list 8 none [(D.v (.int .u8 (43 : Int))),(D.v (.int .u8 (6 : Int))),(D.v (.int .u8 (1 : Int))),(D.v (.int .u8 (5 : Int))),(D.v (.int .u8 (5 : Int))),(D.v (.int .u8 (7 : Int))),(D.v (.int .u8 (2 : Int))),(D.v (.int .u8 (2 : Int)))]),(D.list 0 (some 0) []),(D.v (.int .u8 (0 : Int))),(D.v (.bool true)),(D.v (.int .u32 (16 : Int))),(D.list 0 (some 0) []),(D.list 1 none [(D.v (.int .u8 (0 : Int))),(D.v (.bool false)),(D.v (.int .u32 (12 : Int))),(D.list 1 none [(D.v (.int .u8 (98 : Int)))]),(D.list 0 (some 0) [])])])])
theorem Z12m : funD Tg Zf1 100000 60 Z4g Tryz.f131 Zrh = some Zri := by kernel_rfl
theorem Z12n : funD Tg Zf1 100000 60 Z4g Tryz.f131 Zrj = some Zrk := by kernel_rfl
def Znl (ds : List D) : Option D := if isT Zrh ds then some Zri else (if isT Zrj ds then some Zrk else (none))
theorem Z16h : ∀ ds d,Znl ds = some d → DataSem Tg 131 ds d := by
  intro ds d h
  unfold Znl at h
  split at h
  · rename_i ha; obtain rfl := isT_eq ha; cases h; exact Zn4 Z12m
  split at h
  · rename_i ha; obtain rfl := isT_eq ha; cases h; exact Zn4 Z12n
  cases h

def Z75 : FnH := ⟨[(3,⟨(bm 26 33),[(3,1)],some 1000000⟩)],[]⟩
def Zt7 : FnH := ⟨[],[]⟩
def Zq1 : FnH := ⟨[(3,⟨(bm 9 22),[(3,1)],some 1000000⟩)],[]⟩
def Zt8 : FnH := ⟨[(4,⟨(bm 9 26),[(3,1)],some 1000000⟩)],[]⟩
theorem Zi4 : Enters Tg 133 := ⟨Tryz.f133,Tryz.func133,by kernel_rfl,by kernel_rfl⟩
theorem Zt9 : Enters Tg 150 := ⟨Tryz.f150,Tryz.func150,by kernel_rfl,by kernel_rfl⟩
theorem Zq2 : Enters Tg 166 := ⟨Tryz.f166,Tryz.func166,by kernel_rfl,by kernel_rfl⟩
theorem Zta : Enters Tg 151 := ⟨Tryz.f151,Tryz.func151,by kernel_rfl,by kernel_rfl⟩
noncomputable def Zot : Hints := ⟨[],[(133,Tryz.f133,Z75),(150,Tryz.f150,Zt7),(166,Tryz.f166,Zq1),(151,Tryz.f151,Zt8)],[233,235,236,238,183]⟩
theorem Ztb {m n : Nat} {ds : List D} {d : D} (h : funD Tg Zot m n Z75 Tryz.f133 ds = some d) : DataSem Tg 133 ds d := Z8 (H := Zot) SpOk.nil mixed (InlOk.cons Tryz.func133 Zi4 (InlOk.cons Tryz.func150 Zt9 (InlOk.cons Tryz.func166 Zq2 (InlOk.cons Tryz.func151 Zta InlOk.nil)))) Tryz.func133 Zi4 h
def Zzm : List D := [(D.agg [(D.v (.int .u8 (0 : Int))),(D.v (.bool true)),(D.v (.int .u32 (16 : Int))),(D.list 0 (some 0) []),(D.list 2 (some 2) [(D.v (.int .u8 (0 : Int))),(D.v (.bool false)),(D.v (.int .u32 (6 : Int))),(D.list 8 none [(D.v (.int .u8 (43 : Int))),(D.v (.int .u8 (6 : Int))),(D.v (.int .u8 (1 : Int))),(D.v (.int .u8 (5 : Int))),(D.v (.int .u8 (5 : Int))),(D.v (.int .u8 (7 : Int))),(D.v (.int .u8 (2 : Int))),(D.v (.int .u8 (1 : Int)))]),(D.list 0 (some 0) []),(D.v (.int .u8 (0 : Int))),(D.v (.bool false)),(D.v (.int .u32 (22 : Int))),(D.list 8 none [(D.v (.int .u8 (104 : Int))),(D.v (.int .u8 (116 : Int))),(D.v (.int .u8 (116 : Int))),(D.v (.int .u8 (112 : Int))),(D.v (.int .u8 (58 : Int))),(D.v (.int .u8 (47 : Int))),(D.v (.int .u8 (47 : Int))),(D.v (.int .u8 (97 : Int)))]),(D.list 0 (some 0) [])])])]
def Zzn : D := (D.list 22 none [(D.v (.int .u8 (48 : Int))),(D.v (.int .u8 (20 : Int))),(D.v (.int .u8 (6 : Int))),(D.v (.int .u8 (8 : Int))),(D.v (.int .u8 (43 : Int))),(D.v (.int .u8 (6 : Int))),(D.v (.int .u8 (1 : Int))),(D.v (.int .u8 (5 : Int))),(D.v (.int .u8 (5 : Int))),(D.v (.int .u8 (7 : Int))),(D.v (.int .u8 (2 : Int))),(D.v (.int .u8 (1 : Int))),(D.v (.int .u8 (22 : Int))),(D.v (.int .u8 (8 : Int))),(D.v (.int .u8 (104 : Int))),(D.v (.int .u8 (116 : Int))),(D.v (.int .u8 (116 : Int))),(D.v (.int .u8 (112 : Int))),(D.v (.int .u8 (58 : Int))),(D.v (.int .u8 (47 : Int))),(D.v (.int .u8 (47 : Int))),(D.v (.int .u8 (97 : Int)))])
def Zzo : List D := [(D.agg [(D.v (.int .u8 (0 : Int))),(D.v (.bool true)),(D.v (.int .u32 (16 : Int))),(D.list 0 (some 0) []),(D.list 2 (some 2) [(D.v (.int .u8 (0 : Int))),(D.v (.bool false)),(D.v (.int .u32 (6 : Int))),(D.list 8 none [(D.v (.int .u8 (43 : Int))),(D.v (.int .u8 (6 : Int))),(D.v (.int .u8 (1 : Int))),(D.v (.int .u8 (5 : Int))),(D.v (.int .u8 (5 : Int))),(D.v (.int .u8 (7 : Int))),(D.v (.int .u8 (2 : Int))),(D.v (.int .u8 (2 : Int)))]),(D.list 0 (some 0) []),(D.v (.int .u8 (0 : Int))),(D.v (.bool true)),(D.v (.int .u32 (16 : Int))),(D.list 0 (some 0) []),(D.list 1 none [(D.v (.int .u8 (0 : Int))),(D.v (.bool false)),(D.v (.int .u32 (12 : Int))),(D.list 1 none [(D.v (.int .u8 (98 : Int)))]),(D.list 0 (some 0) [])])])])]
def Zzp : D := (D.list 17 none [(D.v (.int .u8 (48 : Int))),(D.v (.int .u8 (15 : Int))),(D.v (.int .u8 (6 : Int))),(D.v (.int .u8 (8 : Int))),(D.v (.int .u8 (43 : Int))),(D.v (.int .u8 (6 : Int))),(D.v (.int .u8 (1 : Int))),(D.v (.int .u8 (5 : Int))),(D.v (.int .u8 (5 : Int))),(D.v (.int .u8 (7 : Int))),(D.v (.int .u8 (2 : Int))),(D.v (.int .u8 (2 : Int))),(D.v (.int .u8 (48 : Int))),(D.v (.int .u8 (3 : Int))),(D.v (.int .u8 (12 : Int))),(D.v (.int .u8 (1 : Int))),(D.v (.int .u8 (98 : Int)))])
theorem Z1ba : funD Tg Zot 100000 60 Z75 Tryz.f133 Zzm = some Zzn := by kernel_rfl
theorem Z1bb : funD Tg Zot 100000 60 Z75 Tryz.f133 Zzo = some Zzp := by kernel_rfl
def Zxd (ds : List D) : Option D := if isT Zzm ds then some Zzn else (if isT Zzo ds then some Zzp else (none))
theorem Z1gk : ∀ ds d,Zxd ds = some d → DataSem Tg 133 ds d := by
  intro ds d h
  unfold Zxd at h
  split at h
  · rename_i ha; obtain rfl := isT_eq ha; cases h; exact Ztb Z1ba
  split at h
  · rename_i ha; obtain rfl := isT_eq ha; cases h; exact Ztb Z1bb
  cases h

def Z58 : FnH := ⟨[(12,⟨(bm 1546 70),[],some 1000000⟩)],[]⟩
def Zou : FnH := ⟨[],[]⟩
theorem Zc5 : Enters Tg 149 := ⟨Tryz.f149,Tryz.func149,by kernel_rfl,by kernel_rfl⟩
theorem Zov : Enters Tg 167 := ⟨Tryz.f167,Tryz.func167,by kernel_rfl,by kernel_rfl⟩
noncomputable def Zj8 : Hints := ⟨[],[(149,Tryz.f149,Z58),(167,Tryz.f167,Zou)],[233,235,236,238,183]⟩
theorem Zq3 {m n : Nat} {ds : List D} {d : D} (h : funD Tg Zj8 m n Z58 Tryz.f149 ds = some d) : DataSem Tg 149 ds d := Z8 (H := Zj8) SpOk.nil mixed (InlOk.cons Tryz.func149 Zc5 (InlOk.cons Tryz.func167 Zov InlOk.nil)) Tryz.func149 Zc5 h
def Zvd : List D := [(D.agg [(D.v (.int .u8 (0 : Int))),(D.v (.bool true)),(D.v (.int .u32 (16 : Int))),(D.list 0 (some 0) []),(D.list 2 (some 2) [(D.v (.int .u8 (0 : Int))),(D.v (.bool false)),(D.v (.int .u32 (6 : Int))),(D.list 8 none [(D.v (.int .u8 (43 : Int))),(D.v (.int .u8 (6 : Int))),(D.v (.int .u8 (1 : Int))),(D.v (.int .u8 (5 : Int))),(D.v (.int .u8 (5 : Int))),(D.v (.int .u8 (7 : Int))),(D.v (.int .u8 (2 : Int))),(D.v (.int .u8 (1 : Int)))]),(D.list 0 (some 0) []),(D.v (.int .u8 (0 : Int))),(D.v (.bool false)),(D.v (.int .u32 (22 : Int))),(D.list 8 none [(D.v (.int .u8 (104 : Int))),(D.v (.int .u8 (116 : Int))),(D.v (.int .u8 (116 : Int))),(D.v (.int .u8 (112 : Int))),(D.v (.int .u8 (58 : Int))),(D.v (.int .u8 (47 : Int))),(D.v (.int .u8 (47 : Int))),(D.v (.int .u8 (97 : Int)))]),(D.list 0 (some 0) [])])]),(D.v (.int .i64 (1 : Int))),zI]
def Zve : D := (D.tup [zI,(D.v (.int .i64 (3 : Int)))])
def Zvf : List D := [(D.agg [(D.v (.int .u8 (0 : Int))),(D.v (.bool true)),(D.v (.int .u32 (16 : Int))),(D.list 0 (some 0) []),(D.list 2 (some 2) [(D.v (.int .u8 (0 : Int))),(D.v (.bool false)),(D.v (.int .u32 (6 : Int))),(D.list 8 none [(D.v (.int .u8 (43 : Int))),(D.v (.int .u8 (6 : Int))),(D.v (.int .u8 (1 : Int))),(D.v (.int .u8 (5 : Int))),(D.v (.int .u8 (5 : Int))),(D.v (.int .u8 (7 : Int))),(D.v (.int .u8 (2 : Int))),(D.v (.int .u8 (2 : Int)))]),(D.list 0 (some 0) []),(D.v (.int .u8 (0 : Int))),(D.v (.bool true)),(D.v (.int .u32 (16 : Int))),(D.list 0 (some 0) []),(D.list 1 none [(D.v (.int .u8 (0 : Int))),(D.v (.bool false)),(D.v (.int .u32 (12 : Int))),(D.list 1 none [(D.v (.int .u8 (98 : Int)))]),(D.list 0 (some 0) [])])])]),(D.v (.int .i64 (1 : Int))),zI]
def Zvg : D := (D.tup [zI,(D.v (.int .i64 (4 : Int)))])
theorem Z16i : funD Tg Zj8 100000 60 Z58 Tryz.f149 Zvd = some Zve := by kernel_rfl
theorem Z16j : funD Tg Zj8 100000 60 Z58 Tryz.f149 Zvf = some Zvg := by kernel_rfl
def Zsb (ds : List D) : Option D := if isT Zvd ds then some Zve else (if isT Zvf ds then some Zvg else (none))
theorem Z1bc : ∀ ds d,Zsb ds = some d → DataSem Tg 149 ds d := by
  intro ds d h
  unfold Zsb at h
  split at h
  · rename_i ha; obtain rfl := isT_eq ha; cases h; exact Zq3 Z16i
  split at h
  · rename_i ha; obtain rfl := isT_eq ha; cases h; exact Zq3 Z16j
  cases h

def Z59 : FnH := ⟨[],[]⟩
def Zow : FnH := ⟨[],[]⟩
theorem Zc6 : Enters Tg 104 := ⟨Tryz.f104,Tryz.func104,by kernel_rfl,by kernel_rfl⟩
theorem Zox : Enters Tg 132 := ⟨Tryz.f132,Tryz.func132,by kernel_rfl,by kernel_rfl⟩
noncomputable def Zj9 : Hints := ⟨[(129,Zu8),(130,Zpy),(131,Znl),(133,Zxd),(149,Zsb)],[(104,Tryz.f104,Z59),(132,Tryz.f132,Zow)],[233,235,236,238,183]⟩
theorem Zq4 {m n : Nat} {ds : List D} {d : D} (h : funD Tg Zj9 m n Z59 Tryz.f104 ds = some d) : DataSem Tg 104 ds d := Z8 (H := Zj9) (SpOk.cons Z1dx (SpOk.cons Z19a (SpOk.cons Z16h (SpOk.cons Z1gk (SpOk.cons Z1bc SpOk.nil))))) mixed (InlOk.cons Tryz.func104 Zc6 (InlOk.cons Tryz.func132 Zox InlOk.nil)) Tryz.func104 Zc6 h
def Zvh : List D := [(D.agg [(D.v (.int .u8 (1 : Int))),(D.v (.string (ByteArray.mk #[104,116,116,112,58,47,47,97]))),(D.v (.bool false)),zU,(D.v (.string (ByteArray.mk #[]))),(D.list 0 (some 0) []),(D.v (.bool false)),zU,(D.v (.string (ByteArray.mk #[]))),(D.v (.int .u8 (0 : Int))),zU,zU,zU,zU,zU,zU,zU,zU,zU,zU,zU,zU,zU,zU,zU,zU,(D.list 0 (some 0) [])])]
def Zvi : D := zI
def Zvj : List D := [(D.agg [(D.v (.int .u8 (2 : Int))),(D.v (.string (ByteArray.mk #[]))),(D.v (.bool false)),zU,(D.v (.string (ByteArray.mk #[]))),(D.list 0 (some 0) []),(D.v (.bool true)),(D.v (.int .u32 (12 : Int))),(D.v (.string (ByteArray.mk #[98]))),(D.v (.int .u8 (0 : Int))),zU,zU,zU,zU,zU,zU,zU,zU,zU,zU,zU,zU,zU,zU,zU,zU,(D.list 0 (some 0) [])])]
def Zvk : D := zI
theorem Z16k : funD Tg Zj9 100000 60 Z59 Tryz.f104 Zvh = some Zvi := by kernel_rfl
theorem Z16l : funD Tg Zj9 100000 60 Z59 Tryz.f104 Zvj = some Zvk := by kernel_rfl
def Zge (ds : List D) : Option D := if isT Zvh ds then some Zvi else (if isT Zvj ds then some Zvk else (none))
theorem Z1bd : ∀ ds d,Zge ds = some d → DataSem Tg 104 ds d := by
  intro ds d h
  unfold Zge at h
  split at h
  · rename_i ha; obtain rfl := isT_eq ha; cases h; exact Zq4 Z16k
  split at h
  · rename_i ha; obtain rfl := isT_eq ha; cases h; exact Zq4 Z16l
  cases h

end Go.Ev
