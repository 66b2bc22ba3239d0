/- Closed calls of the reference at the two qualifiers of the examples. No conditions. -/
import Derived.Test.YtnghcoghbbapgaaGreatDoorEzI
set_option linter.unusedVariables false
set_option maxRecDepth 1000000
namespace Go.Ev
open Go Go.Proofs
def Z33 : FnH := ⟨[],[]⟩
theorem Zcz : Enters Tg 101 := ⟨Tryz.f101,Tryz.func101,by kernel_rfl,by kernel_rfl⟩
noncomputable def Zlm : Hints := ⟨[],[(101,Tryz.f101,Z33)],[203,205,206,208,148]⟩
theorem Zs9 {m n : Nat} {ds : List D} {d : D} (h : funD Tg Zlm m n Z33 Tryz.f101 ds = some d) : DataSem Tg 101 ds d := Z0 (H := Zlm) SpOk.nil mixed (InlOk.cons Tryz.func101 Zcz InlOk.nil) Tryz.func101 Zcz h
def Zzb : List D := [(D.agg [(D.v (.int .u8 (1 : Int))),(D.v (.string (ByteArray.mk #[104,116,116,112,58,47,47,97]))),(D.v (.bool false)),zU,(D.v (.string (ByteArray.mk #[]))),(D.list 0 (some 0) []),(D.v (.bool false)),zU,(D.v (.string (ByteArray.mk #[]))),(D.v (.int .u8 (0 : Int))),zU,zU,zU,zU,zU,zU,zU,zU,zU,zU,zU,zU,zU,zU,zU,zU,(D.list 0 (some 0) [])])]
def Zzc : D := (D.v (.bool true))
def Zzd : List D := [(D.agg [(D.v (.int .u8 (2 : Int))),(D.v (.string (ByteArray.mk #[]))),(D.v (.bool false)),zU,(D.v (.string (ByteArray.mk #[]))),(D.list 0 (some 0) []),(D.v (.bool true)),(D.v (.int .u32 (12 : Int))),(D.v (.string (ByteArray.mk #[98]))),(D.v (.int .u8 (0 : Int))),zU,zU,zU,zU,zU,zU,zU,zU,zU,zU,zU,zU,zU,zU,zU,zU,(D.list 0 (some 0) [])])]
def Zze : D := (D.v (.bool true))
theorem Z1ai : funD Tg Zlm 100000 60 Z33 Tryz.f101 Zzb = some Zzc := by kernel_rfl
theorem Z1aj : funD Tg Zlm 100000 60 Z33 Tryz.f101 Zzd = some Zze := by kernel_rfl
def Zw7 (ds : List D) : Option D := if isT Zzb ds then some Zzc else (if isT Zzd ds then some Zze else (none))
theorem Z1f6 : ∀ ds d,Zw7 ds = some d → DataSem Tg 101 ds d := by
 intro ds d h
 unfold Zw7 at h
 split at h
 ·rename_i ha; obtain rfl := isT_eq ha; cases h; exact Zs9 Z1ai
 split at h
 ·rename_i ha; obtain rfl := isT_eq ha; cases h; exact Zs9 Z1aj
 cases h
def Z44 : FnH := ⟨[(9,⟨(bm 17179869194 77),[],some 1000000⟩)],[]⟩
def Zia : FnH := ⟨[(1,⟨(bm 1 169),[],none⟩),(9,⟨(bm 1 169),[],none⟩)],[]⟩
def Zib : FnH := ⟨[],[]⟩
theorem Z98 : Enters Tg 118 := ⟨Tryz.f118,Tryz.func118,by kernel_rfl,by kernel_rfl⟩
theorem Zic : Enters Tg 149 := ⟨Tryz.f149,Tryz.func149,by kernel_rfl,by kernel_rfl⟩
theorem Zid : Enters Tg 171 := ⟨Tryz.f171,Tryz.func171,by kernel_rfl,by kernel_rfl⟩
noncomputable def Zqb : Hints := ⟨[],[(118,Tryz.f118,Z44),(149,Tryz.f149,Zia),(171,Tryz.f171,Zib)],[203,205,206,208,148]⟩
theorem Z12u {m n : Nat} {ds : List D} {d : D} (h : funD Tg Zqb m n Z44 Tryz.f118 ds = some d) : DataSem Tg 118 ds d := Z0 (H := Zqb) SpOk.nil mixed (InlOk.cons Tryz.func118 Z98 (InlOk.cons Tryz.func149 Zic (InlOk.cons Tryz.func171 Zid InlOk.nil))) Tryz.func118 Z98 h
def Zx4 : List D := [(D.agg [(D.v (.int .u32 (12 : Int))),(D.v (.string (ByteArray.mk #[98])))])]
def Zx5 : D := zI
theorem Z17w : funD Tg Zqb 100000 60 Z44 Tryz.f118 Zx4 = some Zx5 := by kernel_rfl
def Zti (ds : List D) : Option D := if isT Zx4 ds then some Zx5 else (none)
theorem Z1c8 : ∀ ds d,Zti ds = some d → DataSem Tg 118 ds d := by
 intro ds d h
 unfold Zti at h
 split at h
 ·rename_i ha; obtain rfl := isT_eq ha; cases h; exact Z12u Z17w
 cases h
def Z4y : FnH := ⟨[],[]⟩
theorem Zkq : Enters Tg 119 := ⟨Tryz.f119,Tryz.func119,by kernel_rfl,by kernel_rfl⟩
noncomputable def Zsa : Hints := ⟨[],[(119,Tryz.f119,Z4y)],[203,205,206,208,148]⟩
theorem Zx6 {m n : Nat} {ds : List D} {d : D} (h : funD Tg Zsa m n Z4y Tryz.f119 ds = some d) : DataSem Tg 119 ds d := Z0 (H := Zsa) SpOk.nil mixed (InlOk.cons Tryz.func119 Zkq InlOk.nil) Tryz.func119 Zkq h
def Z14f : List D := [(D.v (.int .u32 (1 : Int)))]
def Z14g : D := (D.agg [(D.v (.int .u8 (9 : Int))),(D.v (.int .u32 (1 : Int))),(D.v (.int .u32 (3 : Int))),(D.v (.int .u32 (6 : Int))),(D.v (.int .u32 (1 : Int))),(D.v (.int .u32 (5 : Int))),(D.v (.int .u32 (5 : Int))),(D.v (.int .u32 (7 : Int))),(D.v (.int .u32 (2 : Int))),(D.v (.int .u32 (1 : Int))),zU,zU,zU,zU,zU,zU,zU])
def Z14h : List D := [(D.v (.int .u32 (2 : Int)))]
def Z14i : D := (D.agg [(D.v (.int .u8 (9 : Int))),(D.v (.int .u32 (1 : Int))),(D.v (.int .u32 (3 : Int))),(D.v (.int .u32 (6 : Int))),(D.v (.int .u32 (1 : Int))),(D.v (.int .u32 (5 : Int))),(D.v (.int .u32 (5 : Int))),(D.v (.int .u32 (7 : Int))),(D.v (.int .u32 (2 : Int))),(D.v (.int .u32 (2 : Int))),zU,zU,zU,zU,zU,zU,zU])
theorem Z1f7 : funD Tg Zsa 100000 60 Z4y Tryz.f119 Z14f = some Z14g := by kernel_rfl
theorem Z1f8 : funD Tg Zsa 100000 60 Z4y Tryz.f119 Z14h = some Z14i := by kernel_rfl
def Zw8 (ds : List D) : Option D := if isT Z14f ds then some Z14g else (if isT Z14h ds then some Z14i else (none))
theorem Z1ak : ∀ ds d,Zw8 ds = some d → DataSem Tg 119 ds d := by
 intro ds d h
 unfold Zw8 at h
 split at h
 ·rename_i ha; obtain rfl := isT_eq ha; cases h; exact Zx6 Z1f7
 split at h
 ·rename_i ha; obtain rfl := isT_eq ha; cases h; exact Zx6 Z1f8
 cases h
def Z2b : FnH := ⟨[(6,⟨(bm 10 76),[],some 1000000⟩)],[]⟩
def Zqc : FnH := ⟨[],[]⟩
def Zoq : FnH := ⟨[(22,⟨(bm 7865353 147),[],some 1000000⟩)],[]⟩
def Zqd : FnH := ⟨[(7,⟨(bm 229 87),[],some 1000000⟩)],[]⟩
def Znq : FnH := ⟨[],[]⟩
def Zqe : FnH := ⟨[(12,⟨(bm 225 59),[],some 1000000⟩)],[]⟩
theorem Z6z : Enters Tg 102 := ⟨Tryz.f102,Tryz.func102,by kernel_rfl,by kernel_rfl⟩
theorem Zqf : Enters Tg 120 := ⟨Tryz.f120,Tryz.func120,by kernel_rfl,by kernel_rfl⟩
theorem Zor : Enters Tg 150 := ⟨Tryz.f150,Tryz.func150,by kernel_rfl,by kernel_rfl⟩
theorem Zqg : Enters Tg 172 := ⟨Tryz.f172,Tryz.func172,by kernel_rfl,by kernel_rfl⟩
theorem Znr : Enters Tg 153 := ⟨Tryz.f153,Tryz.func153,by kernel_rfl,by kernel_rfl⟩
theorem Zqh : Enters Tg 173 := ⟨Tryz.f173,Tryz.func173,by kernel_rfl,by kernel_rfl⟩
noncomputable def Zf4 : Hints := ⟨[(118,Zti),(119,Zw8),(60,fun _ => none)],[(102,Tryz.f102,Z2b),(120,Tryz.f120,Zqc),(150,Tryz.f150,Zoq),(172,Tryz.f172,Zqd),(153,Tryz.f153,Znq),(173,Tryz.f173,Zqe)],[203,205,206,208,148]⟩
theorem Zoc {m n : Nat} {ds : List D} {d : D} (h : funD Tg Zf4 m n Z2b Tryz.f102 ds = some d) : DataSem Tg 102 ds d := Z0 (H := Zf4) (SpOk.cons Z1c8 (SpOk.cons Z1ak (SpOk.cons (fun _ _ h => by cases h) SpOk.nil))) mixed (InlOk.cons Tryz.func102 Z6z (InlOk.cons Tryz.func120 Zqf (InlOk.cons Tryz.func150 Zor (InlOk.cons Tryz.func172 Zqg (InlOk.cons Tryz.func153 Znr (InlOk.cons Tryz.func173 Zqh InlOk.nil)))))) Tryz.func102 Z6z h
def Zuh : List D := [(D.agg [(D.v (.int .u8 (1 : Int))),(D.v (.string (ByteArray.mk #[104,116,116,112,58,47,47,97]))),(D.v (.bool false)),zU,(D.v (.string (ByteArray.mk #[]))),(D.list 0 (some 0) []),(D.v (.bool false)),zU,(D.v (.string (ByteArray.mk #[]))),(D.v (.int .u8 (0 : Int))),zU,zU,zU,zU,zU,zU,zU,zU,zU,zU,zU,zU,zU,zU,zU,zU,(D.list 0 (some 0) [])])]
def Zui : D := zI
def Zuj : List D := [(D.agg [(D.v (.int .u8 (2 : Int))),(D.v (.string (ByteArray.mk #[]))),(D.v (.bool false)),zU,(D.v (.string (ByteArray.mk #[]))),(D.list 0 (some 0) []),(D.v (.bool true)),(D.v (.int .u32 (12 : Int))),(D.v (.string (ByteArray.mk #[98]))),(D.v (.int .u8 (0 : Int))),zU,zU,zU,zU,zU,zU,zU,zU,zU,zU,zU,zU,zU,zU,zU,zU,(D.list 0 (some 0) [])])]
def Zuk : D := zI
theorem Z161 : funD Tg Zf4 100000 60 Z2b Tryz.f102 Zuh = some Zui := by kernel_rfl
theorem Z162 : funD Tg Zf4 100000 60 Z2b Tryz.f102 Zuj = some Zuk := by kernel_rfl
def Zqi (ds : List D) : Option D := if isT Zuh ds then some Zui else (if isT Zuj ds then some Zuk else (none))
theorem Z1al : ∀ ds d,Zqi ds = some d → DataSem Tg 102 ds d := by
 intro ds d h
 unfold Zqi at h
 split at h
 ·rename_i ha; obtain rfl := isT_eq ha; cases h; exact Zoc Z161
 split at h
 ·rename_i ha; obtain rfl := isT_eq ha; cases h; exact Zoc Z162
 cases h
def Z31 : FnH := ⟨[(5,⟨(bm 16392 28),[(3,1)],some 1000000⟩)],[]⟩
theorem Z5l : Enters Tg 151 := ⟨Tryz.f151,Tryz.func151,by kernel_rfl,by kernel_rfl⟩
noncomputable def Zkz : Hints := ⟨[],[(151,Tryz.f151,Z31)],[203,205,206,208,148]⟩
theorem Zzf {m n : Nat} {ds : List D} {d : D} (h : funD Tg Zkz m n Z31 Tryz.f151 ds = some d) : DataSem Tg 151 ds d := Z0 (H := Zkz) SpOk.nil mixed (InlOk.cons Tryz.func151 Z5l InlOk.nil) Tryz.func151 Z5l h
def Zsb : List D := [(D.agg [(D.v (.int .u32 (12 : Int))),(D.v (.string (ByteArray.mk #[98])))])]
def Zsc : D := (D.list 1 none [(D.v (.int .u8 (98 : Int)))])
theorem Z14j : funD Tg Zkz 100000 60 Z31 Tryz.f151 Zsb = some Zsc := by kernel_rfl
def Zns (ds : List D) : Option D := if isT Zsb ds then some Zsc else (none)
theorem Z17x : ∀ ds d,Zns ds = some d → DataSem Tg 151 ds d := by
 intro ds d h
 unfold Zns at h
 split at h
 ·rename_i ha; obtain rfl := isT_eq ha; cases h; exact Zzf Z14j
 cases h
def Z50 : FnH := ⟨[],[]⟩
theorem Zd0 : Enters Tg 123 := ⟨Tryz.f123,Tryz.func123,by kernel_rfl,by kernel_rfl⟩
noncomputable def Ztj : Hints := ⟨[(151,Zns)],[(123,Tryz.f123,Z50)],[203,205,206,208,148]⟩
theorem Z14k {m n : Nat} {ds : List D} {d : D} (h : funD Tg Ztj m n Z50 Tryz.f123 ds = some d) : DataSem Tg 123 ds d := Z0 (H := Ztj) (SpOk.cons Z17x SpOk.nil) mixed (InlOk.cons Tryz.func123 Zd0 InlOk.nil) Tryz.func123 Zd0 h
def Zzg : List D := [(D.agg [(D.v (.int .u32 (12 : Int))),(D.v (.string (ByteArray.mk #[98])))])]
def Zzh : D := (D.agg [(D.v (.int .u8 (0 : Int))),(D.v (.bool false)),(D.v (.int .u32 (12 : Int))),(D.list 1 none [(D.v (.int .u8 (98 : Int)))]),(D.list 0 (some 0) [])])
theorem Z1am : funD Tg Ztj 100000 60 Z50 Tryz.f123 Zzg = some Zzh := by kernel_rfl
def Zw9 (ds : List D) : Option D := if isT Zzg ds then some Zzh else (none)
theorem Z1f9 : ∀ ds d,Zw9 ds = some d → DataSem Tg 123 ds d := by
 intro ds d h
 unfold Zw9 at h
 split at h
 ·rename_i ha; obtain rfl := isT_eq ha; cases h; exact Z14k Z1am
 cases h
def Z3z : FnH := ⟨[(3,⟨(bm 26 32),[(3,1)],some 1000000⟩)],[]⟩
def Zqj : FnH := ⟨[(3,⟨(bm 9 22),[(3,1)],some 1000000⟩)],[]⟩
theorem Zgl : Enters Tg 124 := ⟨Tryz.f124,Tryz.func124,by kernel_rfl,by kernel_rfl⟩
theorem Zqk : Enters Tg 152 := ⟨Tryz.f152,Tryz.func152,by kernel_rfl,by kernel_rfl⟩
noncomputable def Zos : Hints := ⟨[],[(124,Tryz.f124,Z3z),(152,Tryz.f152,Zqj)],[203,205,206,208,148]⟩
theorem Zul {m n : Nat} {ds : List D} {d : D} (h : funD Tg Zos m n Z3z Tryz.f124 ds = some d) : DataSem Tg 124 ds d := Z0 (H := Zos) SpOk.nil mixed (InlOk.cons Tryz.func124 Zgl (InlOk.cons Tryz.func152 Zqk InlOk.nil)) Tryz.func124 Zgl h
def Z11t : List D := [(D.agg [(D.v (.int .u8 (9 : Int))),(D.v (.int .u32 (1 : Int))),(D.v (.int .u32 (3 : Int))),(D.v (.int .u32 (6 : Int))),(D.v (.int .u32 (1 : Int))),(D.v (.int .u32 (5 : Int))),(D.v (.int .u32 (5 : Int))),(D.v (.int .u32 (7 : Int))),(D.v (.int .u32 (2 : Int))),(D.v (.int .u32 (1 : Int))),zU,zU,zU,zU,zU,zU,zU])]
def Z11u : D := (D.list 8 none [(D.v (.int .u8 (43 : Int))),(D.v (.int .u8 (6 : Int))),(D.v (.int .u8 (1 : Int))),(D.v (.int .u8 (5 : Int))),(D.v (.int .u8 (5 : Int))),(D.v (.int .u8 (7 : Int))),(D.v (.int .u8 (2 : Int))),(D.v (.int .u8 (1 : Int)))])
def Z11v : List D := [(D.agg [(D.v (.int .u8 (9 : Int))),(D.v (.int .u32 (1 : Int))),(D.v (.int .u32 (3 : Int))),(D.v (.int .u32 (6 : Int))),(D.v (.int .u32 (1 : Int))),(D.v (.int .u32 (5 : Int))),(D.v (.int .u32 (5 : Int))),(D.v (.int .u32 (7 : Int))),(D.v (.int .u32 (2 : Int))),(D.v (.int .u32 (2 : Int))),zU,zU,zU,zU,zU,zU,zU])]
def Z11w : D := (D.list 8 none [(D.v (.int .u8 (43 : Int))),(D.v (.int .u8 (6 : Int))),(D.v (.int .u8 (1 : Int))),(D.v (.int .u8 (5 : Int))),(D.v (.int .u8 (5 : Int))),(D.v (.int .u8 (7 : Int))),(D.v (.int .u8 (2 : Int))),(D.v (.int .u8 (2 : Int)))])
theorem Z1c9 : funD Tg Zos 100000 60 Z3z Tryz.f124 Z11t = some Z11u := by kernel_rfl
theorem Z1ca : funD Tg Zos 100000 60 Z3z Tryz.f124 Z11v = some Z11w := by kernel_rfl
def Zzi (ds : List D) : Option D := if isT Z11t ds then some Z11u else (if isT Z11v ds then some Z11w else (none))
theorem Z1h4 : ∀ ds d,Zzi ds = some d → DataSem Tg 124 ds d := by
 intro ds d h
 unfold Zzi at h
 split at h
 ·rename_i ha; obtain rfl := isT_eq ha; cases h; exact Zul Z1c9
 split at h
 ·rename_i ha; obtain rfl := isT_eq ha; cases h; exact Zul Z1ca
 cases h
def Z1v : FnH := ⟨[(14,⟨(bm 254 77),[(5,5),(6,5)],some 1000000⟩)],[]⟩
def Zot : FnH := ⟨[],[]⟩
def Zou : FnH := ⟨[],[]⟩
def Znt : FnH := ⟨[(22,⟨(bm 7865353 147),[],some 1000000⟩)],[]⟩
def Zov : FnH := ⟨[(7,⟨(bm 229 87),[],some 1000000⟩)],[]⟩
def Zmx : FnH := ⟨[],[]⟩
def Zow : FnH := ⟨[(12,⟨(bm 225 59),[],some 1000000⟩)],[]⟩
theorem Z5m : Enters Tg 103 := ⟨Tryz.f103,Tryz.func103,by kernel_rfl,by kernel_rfl⟩
theorem Zox : Enters Tg 122 := ⟨Tryz.f122,Tryz.func122,by kernel_rfl,by kernel_rfl⟩
theorem Zoy : Enters Tg 120 := ⟨Tryz.f120,Tryz.func120,by kernel_rfl,by kernel_rfl⟩
theorem Znu : Enters Tg 150 := ⟨Tryz.f150,Tryz.func150,by kernel_rfl,by kernel_rfl⟩
theorem Zoz : Enters Tg 172 := ⟨Tryz.f172,Tryz.func172,by kernel_rfl,by kernel_rfl⟩
theorem Zmy : Enters Tg 153 := ⟨Tryz.f153,Tryz.func153,by kernel_rfl,by kernel_rfl⟩
theorem Zp0 : Enters Tg 173 := ⟨Tryz.f173,Tryz.func173,by kernel_rfl,by kernel_rfl⟩
noncomputable def Zch : Hints := ⟨[(119,Zw8),(123,Zw9),(124,Zzi),(121,fun _ => none)],[(103,Tryz.f103,Z1v),(122,Tryz.f122,Zot),(120,Tryz.f120,Zou),(150,Tryz.f150,Znt),(172,Tryz.f172,Zov),(153,Tryz.f153,Zmx),(173,Tryz.f173,Zow)],[203,205,206,208,148]⟩
theorem Zmz {m n : Nat} {ds : List D} {d : D} (h : funD Tg Zch m n Z1v Tryz.f103 ds = some d) : DataSem Tg 103 ds d := Z0 (H := Zch) (SpOk.cons Z1ak (SpOk.cons Z1f9 (SpOk.cons Z1h4 (SpOk.cons (fun _ _ h => by cases h) SpOk.nil)))) mixed (InlOk.cons Tryz.func103 Z5m (InlOk.cons Tryz.func122 Zox (InlOk.cons Tryz.func120 Zoy (InlOk.cons Tryz.func150 Znu (InlOk.cons Tryz.func172 Zoz (InlOk.cons Tryz.func153 Zmy (InlOk.cons Tryz.func173 Zp0 InlOk.nil))))))) Tryz.func103 Z5m h
def Zsd : List D := [(D.agg [(D.v (.int .u8 (1 : Int))),(D.v (.string (ByteArray.mk #[104,116,116,112,58,47,47,97]))),(D.v (.bool false)),zU,(D.v (.string (ByteArray.mk #[]))),(D.list 0 (some 0) []),(D.v (.bool false)),zU,(D.v (.string (ByteArray.mk #[]))),(D.v (.int .u8 (0 : Int))),zU,zU,zU,zU,zU,zU,zU,zU,zU,zU,zU,zU,zU,zU,zU,zU,(D.list 0 (some 0) [])])]
def Zse : D := (D.agg [(D.v (.int .u8 (0 : Int))),(D.v (.bool true)),(D.v (.int .u32 (16 : Int))),(D.list 0 (some 0) []),(D.list 2 (some 2) [(D.v (.int .u8 (0 : Int))),(D.v (.bool false)),(D.v (.int .u32 (6 : Int))),(D.list 8 none [(D.v (.int .u8 (43 : Int))),(D.v (.int .u8 (6 : Int))),(D.v (.int .u8 (1 : Int))),(D.v (.int .u8 (5 : Int))),(D.v (.int .u8 (5 : Int))),(D.v (.int .u8 (7 : Int))),(D.v (.int .u8 (2 : Int))),(D.v (.int .u8 (1 : Int)))]),(D.list 0 (some 0) []),(D.v (.int .u8 (0 : Int))),(D.v (.bool false)),(D.v (.int .u32 (22 : Int))),(D.list 8 none [(D.v (.int .u8 (104 : Int))),(D.v (.int .u8 (116 : Int))),(D.v (.int .u8 (116 : Int))),(D.v (.int .u8 (112 : Int))),(D.v (.int .u8 (58 : Int))),(D.v (.int .u8 (47 : Int))),(D.v (.int .u8 (47 : Int))),(D.v (.int .u8 (97 : Int)))]),(D.list 0 (some 0) [])])])
def Zsf : List D := [(D.agg [(D.v (.int .u8 (2 : Int))),(D.v (.string (ByteArray.mk #[]))),(D.v (.bool false)),zU,(D.v (.string (ByteArray.mk #[]))),(D.list 0 (some 0) []),(D.v (.bool true)),(D.v (.int .u32 (12 : Int))),(D.v (.string (ByteArray.mk #[98]))),(D.v (.int .u8 (0 : Int))),zU,zU,zU,zU,zU,zU,zU,zU,zU,zU,zU,zU,zU,zU,zU,zU,(D.list 0 (some 0) [])])]
def Zsg : D := (D.agg [(D.v (.int .u8 (0 : Int))),(D.v (.bool true)),(D.v (.int .u32 (16 : Int))),(D.list 0 (some 0) []),(D.list 2 (some 2) [(D.v (.int .u8 (0 : Int))),(D.v (.bool false)),(D.v (.int .u32 (6 : Int))),(D.list 8 none [(D.v (.int .u8 (43 : Int))),(D.v (.int .u8 (6 : Int))),(D.v (.int .u8 (1 : Int))),(D.v (.int .u8 (5 : Int))),(D.v (.int .u8 (5 : Int))),(D.v (.int .u8 (7 : Int))),(D.v (.int .u8 (2 : Int))),(D.v (.int .u8 (2 : Int)))]),(D.list 0 (some 0) []),(D.v (.int .u8 (0 : Int))),(D.v (.bool true)),(D.v (.int .u32 (16 : Int))),(D.list 0 (some 0) []),(D.list 1 none [(D.v (.int .u8 (0 : Int))),(D.v (.bool false)),(D.v (.int .u32 (12 : Int))),(D.list 1 none [(D.v (.int .u8 (98 : Int)))]),(D.list 0 (some 0) [])])])])
theorem Z14l : funD Tg Zch 100000 60 Z1v Tryz.f103 Zsd = some Zse := by kernel_rfl
theorem Z14m : funD Tg Zch 100000 60 Z1v Tryz.f103 Zsf = some Zsg := by kernel_rfl
def Znv (ds : List D) : Option D := if isT Zsd ds then some Zse else (if isT Zsf ds then some Zsg else (none))
theorem Z17y : ∀ ds d,Znv ds = some d → DataSem Tg 103 ds d := by
 intro ds d h
 unfold Znv at h
 split at h
 ·rename_i ha; obtain rfl := isT_eq ha; cases h; exact Zmz Z14l
 split at h
 ·rename_i ha; obtain rfl := isT_eq ha; cases h; exact Zmz Z14m
 cases h
def Z40 : FnH := ⟨[(3,⟨(bm 26 33),[(3,1)],some 1000000⟩)],[]⟩
def Zum : FnH := ⟨[],[]⟩
def Zql : FnH := ⟨[(3,⟨(bm 9 22),[(3,1)],some 1000000⟩)],[]⟩
def Zun : FnH := ⟨[(4,⟨(bm 9 26),[(3,1)],some 1000000⟩)],[]⟩
theorem Zgm : Enters Tg 105 := ⟨Tryz.f105,Tryz.func105,by kernel_rfl,by kernel_rfl⟩
theorem Zuo : Enters Tg 126 := ⟨Tryz.f126,Tryz.func126,by kernel_rfl,by kernel_rfl⟩
theorem Zqm : Enters Tg 152 := ⟨Tryz.f152,Tryz.func152,by kernel_rfl,by kernel_rfl⟩
theorem Zup : Enters Tg 127 := ⟨Tryz.f127,Tryz.func127,by kernel_rfl,by kernel_rfl⟩
noncomputable def Zp1 : Hints := ⟨[],[(105,Tryz.f105,Z40),(126,Tryz.f126,Zum),(152,Tryz.f152,Zql),(127,Tryz.f127,Zun)],[203,205,206,208,148]⟩
theorem Zuq {m n : Nat} {ds : List D} {d : D} (h : funD Tg Zp1 m n Z40 Tryz.f105 ds = some d) : DataSem Tg 105 ds d := Z0 (H := Zp1) SpOk.nil mixed (InlOk.cons Tryz.func105 Zgm (InlOk.cons Tryz.func126 Zuo (InlOk.cons Tryz.func152 Zqm (InlOk.cons Tryz.func127 Zup InlOk.nil)))) Tryz.func105 Zgm h
def Z11x : List D := [(D.agg [(D.v (.int .u8 (0 : Int))),(D.v (.bool true)),(D.v (.int .u32 (16 : Int))),(D.list 0 (some 0) []),(D.list 2 (some 2) [(D.v (.int .u8 (0 : Int))),(D.v (.bool false)),(D.v (.int .u32 (6 : Int))),(D.list 8 none [(D.v (.int .u8 (43 : Int))),(D.v (.int .u8 (6 : Int))),(D.v (.int .u8 (1 : Int))),(D.v (.int .u8 (5 : Int))),(D.v (.int .u8 (5 : Int))),(D.v (.int .u8 (7 : Int))),(D.v (.int .u8 (2 : Int))),(D.v (.int .u8 (1 : Int)))]),(D.list 0 (some 0) []),(D.v (.int .u8 (0 : Int))),(D.v (.bool false)),(D.v (.int .u32 (22 : Int))),(D.list 8 none [(D.v (.int .u8 (104 : Int))),(D.v (.int .u8 (116 : Int))),(D.v (.int .u8 (116 : Int))),(D.v (.int .u8 (112 : Int))),(D.v (.int .u8 (58 : Int))),(D.v (.int .u8 (47 : Int))),(D.v (.int .u8 (47 : Int))),(D.v (.int .u8 (97 : Int)))]),(D.list 0 (some 0) [])])])]
def Z11y : D := (D.list 22 none [(D.v (.int .u8 (48 : Int))),(D.v (.int .u8 (20 : Int))),(D.v (.int .u8 (6 : Int))),(D.v (.int .u8 (8 : Int))),(D.v (.int .u8 (43 : Int))),(D.v (.int .u8 (6 : Int))),(D.v (.int .u8 (1 : Int))),(D.v (.int .u8 (5 : Int))),(D.v (.int .u8 (5 : Int))),(D.v (.int .u8 (7 : Int))),(D.v (.int .u8 (2 : Int))),(D.v (.int .u8 (1 : Int))),(D.v (.int .u8 (22 : Int))),(D.v (.int .u8 (8 : Int))),(D.v (.int .u8 (104 : Int))),(D.v (.int .u8 (116 : Int))),(D.v (.int .u8 (116 : Int))),(D.v (.int .u8 (112 : Int))),(D.v (.int .u8 (58 : Int))),(D.v (.int .u8 (47 : Int))),(D.v (.int .u8 (47 : Int))),(D.v (.int .u8 (97 : Int)))])
def Z11z : List D := [(D.agg [(D.v (.int .u8 (0 : Int))),(D.v (.bool true)),(D.v (.int .u32 (16 : Int))),(D.list 0 (some 0) []),(D.list 2 (some 2) [(D.v (.int .u8 (0 : Int))),(D.v (.bool false)),(D.v (.int .u32 (6 : Int))),(D.list 8 none [(D.v (.int .u8 (43 : Int))),(D.v (.int .u8 (6 : Int))),(D.v (.int .u8 (1 : Int))),(D.v (.int .u8 (5 : Int))),(D.v (.int .u8 (5 : Int))),(D.v (.int .u8 (7 : Int))),(D.v (.int .u8 (2 : Int))),(D.v (.int .u8 (2 : Int)))]),(D.list 0 (some 0) []),(D.v (.int .u8 (0 : Int))),(D.v (.bool true)),(D.v (.int .u32 (16 : Int))),(D.list 0 (some 0) []),(D.list 1 none [(D.v (.int .u8 (0 : Int))),(D.v (.bool false)),(D.v (.int .u32 (12 : Int))),(D.list 1 none [(D.v (.int .u8 (98 : Int)))]),(D.list 0 (some 0) [])])])])]
def Z120 : D := (D.list 17 none [(D.v (.int .u8 (48 : Int))),(D.v (.int .u8 (15 : Int))),(D.v (.int .u8 (6 : Int))),(D.v (.int .u8 (8 : Int))),(D.v (.int .u8 (43 : Int))),(D.v (.int .u8 (6 : Int))),(D.v (.int .u8 (1 : Int))),(D.v (.int .u8 (5 : Int))),(D.v (.int .u8 (5 : Int))),(D.v (.int .u8 (7 : Int))),(D.v (.int .u8 (2 : Int))),(D.v (.int .u8 (2 : Int))),(D.v (.int .u8 (48 : Int))),(D.v (.int .u8 (3 : Int))),(D.v (.int .u8 (12 : Int))),(D.v (.int .u8 (1 : Int))),(D.v (.int .u8 (98 : Int)))])
theorem Z1cb : funD Tg Zp1 100000 60 Z40 Tryz.f105 Z11x = some Z11y := by kernel_rfl
theorem Z1cc : funD Tg Zp1 100000 60 Z40 Tryz.f105 Z11z = some Z120 := by kernel_rfl
def Zzj (ds : List D) : Option D := if isT Z11x ds then some Z11y else (if isT Z11z ds then some Z120 else (none))
theorem Z1h5 : ∀ ds d,Zzj ds = some d → DataSem Tg 105 ds d := by
 intro ds d h
 unfold Zzj at h
 split at h
 ·rename_i ha; obtain rfl := isT_eq ha; cases h; exact Zuq Z1cb
 split at h
 ·rename_i ha; obtain rfl := isT_eq ha; cases h; exact Zuq Z1cc
 cases h
def Z2j : FnH := ⟨[(12,⟨(bm 1546 70),[],some 1000000⟩)],[]⟩
def Zp2 : FnH := ⟨[],[]⟩
theorem Z99 : Enters Tg 125 := ⟨Tryz.f125,Tryz.func125,by kernel_rfl,by kernel_rfl⟩
theorem Zp3 : Enters Tg 153 := ⟨Tryz.f153,Tryz.func153,by kernel_rfl,by kernel_rfl⟩
noncomputable def Zie : Hints := ⟨[],[(125,Tryz.f125,Z2j),(153,Tryz.f153,Zp2)],[203,205,206,208,148]⟩
theorem Zqn {m n : Nat} {ds : List D} {d : D} (h : funD Tg Zie m n Z2j Tryz.f125 ds = some d) : DataSem Tg 125 ds d := Z0 (H := Zie) SpOk.nil mixed (InlOk.cons Tryz.func125 Z99 (InlOk.cons Tryz.func153 Zp3 InlOk.nil)) Tryz.func125 Z99 h
def Zx7 : List D := [(D.agg [(D.v (.int .u8 (0 : Int))),(D.v (.bool true)),(D.v (.int .u32 (16 : Int))),(D.list 0 (some 0) []),(D.list 2 (some 2) [(D.v (.int .u8 (0 : Int))),(D.v (.bool false)),(D.v (.int .u32 (6 : Int))),(D.list 8 none [(D.v (.int .u8 (43 : Int))),(D.v (.int .u8 (6 : Int))),(D.v (.int .u8 (1 : Int))),(D.v (.int .u8 (5 : Int))),(D.v (.int .u8 (5 : Int))),(D.v (.int .u8 (7 : Int))),(D.v (.int .u8 (2 : Int))),(D.v (.int .u8 (1 : Int)))]),(D.list 0 (some 0) []),(D.v (.int .u8 (0 : Int))),(D.v (.bool false)),(D.v (.int .u32 (22 : Int))),(D.list 8 none [(D.v (.int .u8 (104 : Int))),(D.v (.int .u8 (116 : Int))),(D.v (.int .u8 (116 : Int))),(D.v (.int .u8 (112 : Int))),(D.v (.int .u8 (58 : Int))),(D.v (.int .u8 (47 : Int))),(D.v (.int .u8 (47 : Int))),(D.v (.int .u8 (97 : Int)))]),(D.list 0 (some 0) [])])]),(D.v (.int .i64 (1 : Int))),zI]
def Zx8 : D := (D.tup [zI,(D.v (.int .i64 (3 : Int)))])
def Zx9 : List D := [(D.agg [(D.v (.int .u8 (0 : Int))),(D.v (.bool true)),(D.v (.int .u32 (16 : Int))),(D.list 0 (some 0) []),(D.list 2 (some 2) [(D.v (.int .u8 (0 : Int))),(D.v (.bool false)),(D.v (.int .u32 (6 : Int))),(D.list 8 none [(D.v (.int .u8 (43 : Int))),(D.v (.int .u8 (6 : Int))),(D.v (.int .u8 (1 : Int))),(D.v (.int .u8 (5 : Int))),(D.v (.int .u8 (5 : Int))),(D.v (.int .u8 (7 : Int))),(D.v (.int .u8 (2 : Int))),(D.v (.int .u8 (2 : Int)))]),(D.list 0 (some 0) []),(D.v (.int .u8 (0 : Int))),(D.v (.bool true)),(D.v (.int .u32 (16 : Int))),(D.list 0 (some 0) []),(D.list 1 none [(D.v (.int .u8 (0 : Int))),(D.v (.bool false)),(D.v (.int .u32 (12 : Int))),(D.list 1 none [(D.v (.int .u8 (98 : Int)))]),(D.list 0 (some 0) [])])])]),(D.v (.int .i64 (1 : Int))),zI]
def Zxa : D := (D.tup [zI,(D.v (.int .i64 (4 : Int)))])
theorem Z17z : funD Tg Zie 100000 60 Z2j Tryz.f125 Zx7 = some Zx8 := by kernel_rfl
theorem Z180 : funD Tg Zie 100000 60 Z2j Tryz.f125 Zx9 = some Zxa := by kernel_rfl
def Ztk (ds : List D) : Option D := if isT Zx7 ds then some Zx8 else (if isT Zx9 ds then some Zxa else (none))
theorem Z1cd : ∀ ds d,Ztk ds = some d → DataSem Tg 125 ds d := by
 intro ds d h
 unfold Ztk at h
 split at h
 ·rename_i ha; obtain rfl := isT_eq ha; cases h; exact Zqn Z17z
 split at h
 ·rename_i ha; obtain rfl := isT_eq ha; cases h; exact Zqn Z180
 cases h
def Z2k : FnH := ⟨[],[]⟩
def Zp4 : FnH := ⟨[],[]⟩
theorem Z9a : Enters Tg 84 := ⟨Tryz.f84,Tryz.func84,by kernel_rfl,by kernel_rfl⟩
theorem Zp5 : Enters Tg 104 := ⟨Tryz.f104,Tryz.func104,by kernel_rfl,by kernel_rfl⟩
noncomputable def Zif : Hints := ⟨[(101,Zw7),(102,Zqi),(103,Znv),(105,Zzj),(125,Ztk)],[(84,Tryz.f84,Z2k),(104,Tryz.f104,Zp4)],[203,205,206,208,148]⟩
theorem Zqo {m n : Nat} {ds : List D} {d : D} (h : funD Tg Zif m n Z2k Tryz.f84 ds = some d) : DataSem Tg 84 ds d := Z0 (H := Zif) (SpOk.cons Z1f6 (SpOk.cons Z1al (SpOk.cons Z17y (SpOk.cons Z1h5 (SpOk.cons Z1cd SpOk.nil))))) mixed (InlOk.cons Tryz.func84 Z9a (InlOk.cons Tryz.func104 Zp5 InlOk.nil)) Tryz.func84 Z9a h
def Zxb : List D := [(D.agg [(D.v (.int .u8 (1 : Int))),(D.v (.string (ByteArray.mk #[104,116,116,112,58,47,47,97]))),(D.v (.bool false)),zU,(D.v (.string (ByteArray.mk #[]))),(D.list 0 (some 0) []),(D.v (.bool false)),zU,(D.v (.string (ByteArray.mk #[]))),(D.v (.int .u8 (0 : Int))),zU,zU,zU,zU,zU,zU,zU,zU,zU,zU,zU,zU,zU,zU,zU,zU,(D.list 0 (some 0) [])])]
def Zxc : D := zI
def Zxd : List D := [(D.agg [(D.v (.int .u8 (2 : Int))),(D.v (.string (ByteArray.mk #[]))),(D.v (.bool false)),zU,(D.v (.string (ByteArray.mk #[]))),(D.list 0 (some 0) []),(D.v (.bool true)),(D.v (.int .u32 (12 : Int))),(D.v (.string (ByteArray.mk #[98]))),(D.v (.int .u8 (0 : Int))),zU,zU,zU,zU,zU,zU,zU,zU,zU,zU,zU,zU,zU,zU,zU,zU,(D.list 0 (some 0) [])])]
def Zxe : D := zI
theorem Z181 : funD Tg Zif 100000 60 Z2k Tryz.f84 Zxb = some Zxc := by kernel_rfl
theorem Z182 : funD Tg Zif 100000 60 Z2k Tryz.f84 Zxd = some Zxe := by kernel_rfl
def Ze8 (ds : List D) : Option D := if isT Zxb ds then some Zxc else (if isT Zxd ds then some Zxe else (none))
theorem Z1ce : ∀ ds d,Ze8 ds = some d → DataSem Tg 84 ds d := by
 intro ds d h
 unfold Ze8 at h
 split at h
 ·rename_i ha; obtain rfl := isT_eq ha; cases h; exact Zqo Z181
 split at h
 ·rename_i ha; obtain rfl := isT_eq ha; cases h; exact Zqo Z182
 cases h
end Go.Ev