/- Closed calls of the reference at the two qualifiers of the examples. No conditions. -/
import Derived.Test.YtkefahdbckjajaaGreatDoorEzI
set_option linter.unusedVariables false
set_option maxRecDepth 1000000
namespace Go.Ev
open Go Go.Proofs
def Z4c : FnH := ⟨[], []⟩
theorem Zcb : Enters Tryz.prog 129 := ⟨Tryz.f129, Tryz.func129, by kernel_rfl, by kernel_rfl⟩
noncomputable def Zh5 : Hints := ⟨[], [(129, Tryz.f129, Z4c)], [233, 235, 236, 238, 183]⟩
theorem Zln {m n : Nat} {ds : List D} {d : D} (h : funD Tryz.prog Zh5 m n Z4c Tryz.f129 ds = some d) : DataSem Tryz.prog 129 ds d := data_sound (H := Zh5) SpOk.nil mixed (InlOk.cons Tryz.func129 Zcb InlOk.nil) Tryz.func129 Zcb h
def Zpg : List D := [(D.agg [(D.v (.int .u8 (1 : Int))), (D.v (.string (ByteArray.mk #[104, 116, 116, 112, 58, 47, 47, 97]))), (D.v (.bool false)), zU, (D.v (.string (ByteArray.mk #[]))), (D.list 0 (some 0) []), (D.v (.bool false)), zU, (D.v (.string (ByteArray.mk #[]))), (D.v (.int .u8 (0 : Int))), zU, zU, zU, zU, zU, zU, zU, zU, zU, zU, zU, zU, zU, zU, zU, zU, (D.list 0 (some 0) [])])]
def Zph : D := (D.v (.bool true))
def Zpi : List D := [(D.agg [(D.v (.int .u8 (2 : Int))), (D.v (.string (ByteArray.mk #[]))), (D.v (.bool false)), zU, (D.v (.string (ByteArray.mk #[]))), (D.list 0 (some 0) []), (D.v (.bool true)), (D.v (.int .u32 (12 : Int))), (D.v (.string (ByteArray.mk #[98]))), (D.v (.int .u8 (0 : Int))), zU, zU, zU, zU, zU, zU, zU, zU, zU, zU, zU, zU, zU, zU, zU, zU, (D.list 0 (some 0) [])])]
def Zpj : D := (D.v (.bool true))
theorem Zw0 : funD Tryz.prog Zh5 100000 60 Z4c Tryz.f129 Zpg = some Zph := by kernel_rfl
theorem Zw1 : funD Tryz.prog Zh5 100000 60 Z4c Tryz.f129 Zpi = some Zpj := by kernel_rfl
def Znk (ds : List D) : Option D := if isT Zpg ds then some Zph else (if isT Zpi ds then some Zpj else (none))
theorem Zyr : ∀ ds d, Znk ds = some d → DataSem Tryz.prog 129 ds d := by
  intro ds d h
  unfold Znk at h
  split at h
  · rename_i ha; obtain rfl := isT_eq ha; cases h; exact Zln Zw0
  split at h
  · rename_i ha; obtain rfl := isT_eq ha; cases h; exact Zln Zw1
  cases h

def Z5a : FnH := ⟨[(9, ⟨(bm 17179869194 77), [], some 1000000⟩)], []⟩
def Zfb : FnH := ⟨[(1, ⟨(bm 1 169), [], none⟩), (9, ⟨(bm 1 169), [], none⟩)], []⟩
def Zfc : FnH := ⟨[], []⟩
theorem Z9a : Enters Tryz.prog 142 := ⟨Tryz.f142, Tryz.func142, by kernel_rfl, by kernel_rfl⟩
theorem Zfd : Enters Tryz.prog 163 := ⟨Tryz.f163, Tryz.func163, by kernel_rfl, by kernel_rfl⟩
theorem Zfe : Enters Tryz.prog 189 := ⟨Tryz.f189, Tryz.func189, by kernel_rfl, by kernel_rfl⟩
noncomputable def Zkb : Hints := ⟨[], [(142, Tryz.f142, Z5a), (163, Tryz.f163, Zfb), (189, Tryz.f189, Zfc)], [233, 235, 236, 238, 183]⟩
theorem Zrg {m n : Nat} {ds : List D} {d : D} (h : funD Tryz.prog Zkb m n Z5a Tryz.f142 ds = some d) : DataSem Tryz.prog 142 ds d := data_sound (H := Zkb) SpOk.nil mixed (InlOk.cons Tryz.func142 Z9a (InlOk.cons Tryz.func163 Zfd (InlOk.cons Tryz.func189 Zfe InlOk.nil))) Tryz.func142 Z9a h
def Zo8 : List D := [(D.agg [(D.v (.int .u32 (12 : Int))), (D.v (.string (ByteArray.mk #[98])))])]
def Zo9 : D := zI
theorem Zup : funD Tryz.prog Zkb 100000 60 Z5a Tryz.f142 Zo8 = some Zo9 := by kernel_rfl
def Zmf (ds : List D) : Option D := if isT Zo8 ds then some Zo9 else (none)
theorem Zxb : ∀ ds d, Zmf ds = some d → DataSem Tryz.prog 142 ds d := by
  intro ds d h
  unfold Zmf at h
  split at h
  · rename_i ha; obtain rfl := isT_eq ha; cases h; exact Zrg Zup
  cases h

def Z5v : FnH := ⟨[], []⟩
theorem Zgq : Enters Tryz.prog 143 := ⟨Tryz.f143, Tryz.func143, by kernel_rfl, by kernel_rfl⟩
noncomputable def Zlo : Hints := ⟨[], [(143, Tryz.f143, Z5v)], [233, 235, 236, 238, 183]⟩
theorem Zoa {m n : Nat} {ds : List D} {d : D} (h : funD Tryz.prog Zlo m n Z5v Tryz.f143 ds = some d) : DataSem Tryz.prog 143 ds d := data_sound (H := Zlo) SpOk.nil mixed (InlOk.cons Tryz.func143 Zgq InlOk.nil) Tryz.func143 Zgq h
def Zsi : List D := [(D.v (.int .u32 (1 : Int)))]
def Zsj : D := (D.agg [(D.v (.int .u8 (9 : Int))), (D.v (.int .u32 (1 : Int))), (D.v (.int .u32 (3 : Int))), (D.v (.int .u32 (6 : Int))), (D.v (.int .u32 (1 : Int))), (D.v (.int .u32 (5 : Int))), (D.v (.int .u32 (5 : Int))), (D.v (.int .u32 (7 : Int))), (D.v (.int .u32 (2 : Int))), (D.v (.int .u32 (1 : Int))), zU, zU, zU, zU, zU, zU, zU])
def Zsk : List D := [(D.v (.int .u32 (2 : Int)))]
def Zsl : D := (D.agg [(D.v (.int .u8 (9 : Int))), (D.v (.int .u32 (1 : Int))), (D.v (.int .u32 (3 : Int))), (D.v (.int .u32 (6 : Int))), (D.v (.int .u32 (1 : Int))), (D.v (.int .u32 (5 : Int))), (D.v (.int .u32 (5 : Int))), (D.v (.int .u32 (7 : Int))), (D.v (.int .u32 (2 : Int))), (D.v (.int .u32 (2 : Int))), zU, zU, zU, zU, zU, zU, zU])
theorem Zys : funD Tryz.prog Zlo 100000 60 Z5v Tryz.f143 Zsi = some Zsj := by kernel_rfl
theorem Zyt : funD Tryz.prog Zlo 100000 60 Z5v Tryz.f143 Zsk = some Zsl := by kernel_rfl
def Znl (ds : List D) : Option D := if isT Zsi ds then some Zsj else (if isT Zsk ds then some Zsl else (none))
theorem Zw2 : ∀ ds d, Znl ds = some d → DataSem Tryz.prog 143 ds d := by
  intro ds d h
  unfold Znl at h
  split at h
  · rename_i ha; obtain rfl := isT_eq ha; cases h; exact Zoa Zys
  split at h
  · rename_i ha; obtain rfl := isT_eq ha; cases h; exact Zoa Zyt
  cases h

def Z3m : FnH := ⟨[(6, ⟨(bm 10 76), [], some 1000000⟩)], []⟩
def Zkc : FnH := ⟨[], []⟩
def Zja : FnH := ⟨[(22, ⟨(bm 7865353 147), [], some 1000000⟩)], []⟩
def Zkd : FnH := ⟨[(7, ⟨(bm 229 87), [], some 1000000⟩)], []⟩
def Zis : FnH := ⟨[], []⟩
def Zke : FnH := ⟨[(12, ⟨(bm 225 59), [], some 1000000⟩)], []⟩
theorem Z7n : Enters Tryz.prog 130 := ⟨Tryz.f130, Tryz.func130, by kernel_rfl, by kernel_rfl⟩
theorem Zkf : Enters Tryz.prog 144 := ⟨Tryz.f144, Tryz.func144, by kernel_rfl, by kernel_rfl⟩
theorem Zjb : Enters Tryz.prog 164 := ⟨Tryz.f164, Tryz.func164, by kernel_rfl, by kernel_rfl⟩
theorem Zkg : Enters Tryz.prog 190 := ⟨Tryz.f190, Tryz.func190, by kernel_rfl, by kernel_rfl⟩
theorem Zit : Enters Tryz.prog 167 := ⟨Tryz.f167, Tryz.func167, by kernel_rfl, by kernel_rfl⟩
theorem Zkh : Enters Tryz.prog 191 := ⟨Tryz.f191, Tryz.func191, by kernel_rfl, by kernel_rfl⟩
noncomputable def Zdi : Hints := ⟨[(142, Zmf), (143, Znl), (91, fun _ => none)], [(130, Tryz.f130, Z3m), (144, Tryz.f144, Zkc), (164, Tryz.f164, Zja), (190, Tryz.f190, Zkd), (167, Tryz.f167, Zis), (191, Tryz.f191, Zke)], [233, 235, 236, 238, 183]⟩
theorem Zj4 {m n : Nat} {ds : List D} {d : D} (h : funD Tryz.prog Zdi m n Z3m Tryz.f130 ds = some d) : DataSem Tryz.prog 130 ds d := data_sound (H := Zdi) (SpOk.cons Zxb (SpOk.cons Zw2 (SpOk.cons (fun _ _ h => by cases h) SpOk.nil))) mixed (InlOk.cons Tryz.func130 Z7n (InlOk.cons Tryz.func144 Zkf (InlOk.cons Tryz.func164 Zjb (InlOk.cons Tryz.func190 Zkg (InlOk.cons Tryz.func167 Zit (InlOk.cons Tryz.func191 Zkh InlOk.nil)))))) Tryz.func130 Z7n h
def Zmv : List D := [(D.agg [(D.v (.int .u8 (1 : Int))), (D.v (.string (ByteArray.mk #[104, 116, 116, 112, 58, 47, 47, 97]))), (D.v (.bool false)), zU, (D.v (.string (ByteArray.mk #[]))), (D.list 0 (some 0) []), (D.v (.bool false)), zU, (D.v (.string (ByteArray.mk #[]))), (D.v (.int .u8 (0 : Int))), zU, zU, zU, zU, zU, zU, zU, zU, zU, zU, zU, zU, zU, zU, zU, zU, (D.list 0 (some 0) [])])]
def Zmw : D := zI
def Zmx : List D := [(D.agg [(D.v (.int .u8 (2 : Int))), (D.v (.string (ByteArray.mk #[]))), (D.v (.bool false)), zU, (D.v (.string (ByteArray.mk #[]))), (D.list 0 (some 0) []), (D.v (.bool true)), (D.v (.int .u32 (12 : Int))), (D.v (.string (ByteArray.mk #[98]))), (D.v (.int .u8 (0 : Int))), zU, zU, zU, zU, zU, zU, zU, zU, zU, zU, zU, zU, zU, zU, zU, zU, (D.list 0 (some 0) [])])]
def Zmy : D := zI
theorem Ztf : funD Tryz.prog Zdi 100000 60 Z3m Tryz.f130 Zmv = some Zmw := by kernel_rfl
theorem Ztg : funD Tryz.prog Zdi 100000 60 Z3m Tryz.f130 Zmx = some Zmy := by kernel_rfl
def Zki (ds : List D) : Option D := if isT Zmv ds then some Zmw else (if isT Zmx ds then some Zmy else (none))
theorem Zw3 : ∀ ds d, Zki ds = some d → DataSem Tryz.prog 130 ds d := by
  intro ds d h
  unfold Zki at h
  split at h
  · rename_i ha; obtain rfl := isT_eq ha; cases h; exact Zj4 Ztf
  split at h
  · rename_i ha; obtain rfl := isT_eq ha; cases h; exact Zj4 Ztg
  cases h

def Z4b : FnH := ⟨[(5, ⟨(bm 16392 28), [(3, 1)], some 1000000⟩)], []⟩
theorem Z6e : Enters Tryz.prog 165 := ⟨Tryz.f165, Tryz.func165, by kernel_rfl, by kernel_rfl⟩
noncomputable def Zgu : Hints := ⟨[], [(165, Tryz.f165, Z4b)], [233, 235, 236, 238, 183]⟩
theorem Zpk {m n : Nat} {ds : List D} {d : D} (h : funD Tryz.prog Zgu m n Z4b Tryz.f165 ds = some d) : DataSem Tryz.prog 165 ds d := data_sound (H := Zgu) SpOk.nil mixed (InlOk.cons Tryz.func165 Z6e InlOk.nil) Tryz.func165 Z6e h
def Zlp : List D := [(D.agg [(D.v (.int .u32 (12 : Int))), (D.v (.string (ByteArray.mk #[98])))])]
def Zlq : D := (D.list 1 none [(D.v (.int .u8 (98 : Int)))])
theorem Zsm : funD Tryz.prog Zgu 100000 60 Z4b Tryz.f165 Zlp = some Zlq := by kernel_rfl
def Ziu (ds : List D) : Option D := if isT Zlp ds then some Zlq else (none)
theorem Zuq : ∀ ds d, Ziu ds = some d → DataSem Tryz.prog 165 ds d := by
  intro ds d h
  unfold Ziu at h
  split at h
  · rename_i ha; obtain rfl := isT_eq ha; cases h; exact Zpk Zsm
  cases h

def Z5x : FnH := ⟨[], []⟩
theorem Zcc : Enters Tryz.prog 147 := ⟨Tryz.f147, Tryz.func147, by kernel_rfl, by kernel_rfl⟩
noncomputable def Zmg : Hints := ⟨[(165, Ziu)], [(147, Tryz.f147, Z5x)], [233, 235, 236, 238, 183]⟩
theorem Zsn {m n : Nat} {ds : List D} {d : D} (h : funD Tryz.prog Zmg m n Z5x Tryz.f147 ds = some d) : DataSem Tryz.prog 147 ds d := data_sound (H := Zmg) (SpOk.cons Zuq SpOk.nil) mixed (InlOk.cons Tryz.func147 Zcc InlOk.nil) Tryz.func147 Zcc h
def Zpl : List D := [(D.agg [(D.v (.int .u32 (12 : Int))), (D.v (.string (ByteArray.mk #[98])))])]
def Zpm : D := (D.agg [(D.v (.int .u8 (0 : Int))), (D.v (.bool false)), (D.v (.int .u32 (12 : Int))), (D.list 1 none [(D.v (.int .u8 (98 : Int)))]), (D.list 0 (some 0) [])])
theorem Zw4 : funD Tryz.prog Zmg 100000 60 Z5x Tryz.f147 Zpl = some Zpm := by kernel_rfl
def Znm (ds : List D) : Option D := if isT Zpl ds then some Zpm else (none)
theorem Zyu : ∀ ds d, Znm ds = some d → DataSem Tryz.prog 147 ds d := by
  intro ds d h
  unfold Znm at h
  split at h
  · rename_i ha; obtain rfl := isT_eq ha; cases h; exact Zsn Zw4
  cases h

def Z55 : FnH := ⟨[(3, ⟨(bm 26 32), [(3, 1)], some 1000000⟩)], []⟩
def Zkj : FnH := ⟨[(3, ⟨(bm 9 22), [(3, 1)], some 1000000⟩)], []⟩
theorem Zei : Enters Tryz.prog 148 := ⟨Tryz.f148, Tryz.func148, by kernel_rfl, by kernel_rfl⟩
theorem Zkk : Enters Tryz.prog 166 := ⟨Tryz.f166, Tryz.func166, by kernel_rfl, by kernel_rfl⟩
noncomputable def Zjc : Hints := ⟨[], [(148, Tryz.f148, Z55), (166, Tryz.f166, Zkj)], [233, 235, 236, 238, 183]⟩
theorem Zmz {m n : Nat} {ds : List D} {d : D} (h : funD Tryz.prog Zjc m n Z55 Tryz.f148 ds = some d) : DataSem Tryz.prog 148 ds d := data_sound (H := Zjc) SpOk.nil mixed (InlOk.cons Tryz.func148 Zei (InlOk.cons Tryz.func166 Zkk InlOk.nil)) Tryz.func148 Zei h
def Zqy : List D := [(D.agg [(D.v (.int .u8 (9 : Int))), (D.v (.int .u32 (1 : Int))), (D.v (.int .u32 (3 : Int))), (D.v (.int .u32 (6 : Int))), (D.v (.int .u32 (1 : Int))), (D.v (.int .u32 (5 : Int))), (D.v (.int .u32 (5 : Int))), (D.v (.int .u32 (7 : Int))), (D.v (.int .u32 (2 : Int))), (D.v (.int .u32 (1 : Int))), zU, zU, zU, zU, zU, zU, zU])]
def Zqz : D := (D.list 8 none [(D.v (.int .u8 (43 : Int))), (D.v (.int .u8 (6 : Int))), (D.v (.int .u8 (1 : Int))), (D.v (.int .u8 (5 : Int))), (D.v (.int .u8 (5 : Int))), (D.v (.int .u8 (7 : Int))), (D.v (.int .u8 (2 : Int))), (D.v (.int .u8 (1 : Int)))])
def Zr0 : List D := [(D.agg [(D.v (.int .u8 (9 : Int))), (D.v (.int .u32 (1 : Int))), (D.v (.int .u32 (3 : Int))), (D.v (.int .u32 (6 : Int))), (D.v (.int .u32 (1 : Int))), (D.v (.int .u32 (5 : Int))), (D.v (.int .u32 (5 : Int))), (D.v (.int .u32 (7 : Int))), (D.v (.int .u32 (2 : Int))), (D.v (.int .u32 (2 : Int))), zU, zU, zU, zU, zU, zU, zU])]
def Zr1 : D := (D.list 8 none [(D.v (.int .u8 (43 : Int))), (D.v (.int .u8 (6 : Int))), (D.v (.int .u8 (1 : Int))), (D.v (.int .u8 (5 : Int))), (D.v (.int .u8 (5 : Int))), (D.v (.int .u8 (7 : Int))), (D.v (.int .u8 (2 : Int))), (D.v (.int .u8 (2 : Int)))])
theorem Zxc : funD Tryz.prog Zjc 100000 60 Z55 Tryz.f148 Zqy = some Zqz := by kernel_rfl
theorem Zxd : funD Tryz.prog Zjc 100000 60 Z55 Tryz.f148 Zr0 = some Zr1 := by kernel_rfl
def Zpn (ds : List D) : Option D := if isT Zqy ds then some Zqz else (if isT Zr0 ds then some Zr1 else (none))
theorem Zzo : ∀ ds d, Zpn ds = some d → DataSem Tryz.prog 148 ds d := by
  intro ds d h
  unfold Zpn at h
  split at h
  · rename_i ha; obtain rfl := isT_eq ha; cases h; exact Zmz Zxc
  split at h
  · rename_i ha; obtain rfl := isT_eq ha; cases h; exact Zmz Zxd
  cases h

def Z37 : FnH := ⟨[(14, ⟨(bm 254 77), [(5, 5), (6, 5)], some 1000000⟩)], []⟩
def Zjd : FnH := ⟨[], []⟩
def Zje : FnH := ⟨[], []⟩
def Ziv : FnH := ⟨[(22, ⟨(bm 7865353 147), [], some 1000000⟩)], []⟩
def Zjf : FnH := ⟨[(7, ⟨(bm 229 87), [], some 1000000⟩)], []⟩
def Zih : FnH := ⟨[], []⟩
def Zjg : FnH := ⟨[(12, ⟨(bm 225 59), [], some 1000000⟩)], []⟩
theorem Z6f : Enters Tryz.prog 131 := ⟨Tryz.f131, Tryz.func131, by kernel_rfl, by kernel_rfl⟩
theorem Zjh : Enters Tryz.prog 146 := ⟨Tryz.f146, Tryz.func146, by kernel_rfl, by kernel_rfl⟩
theorem Zji : Enters Tryz.prog 144 := ⟨Tryz.f144, Tryz.func144, by kernel_rfl, by kernel_rfl⟩
theorem Ziw : Enters Tryz.prog 164 := ⟨Tryz.f164, Tryz.func164, by kernel_rfl, by kernel_rfl⟩
theorem Zjj : Enters Tryz.prog 190 := ⟨Tryz.f190, Tryz.func190, by kernel_rfl, by kernel_rfl⟩
theorem Zii : Enters Tryz.prog 167 := ⟨Tryz.f167, Tryz.func167, by kernel_rfl, by kernel_rfl⟩
theorem Zjk : Enters Tryz.prog 191 := ⟨Tryz.f191, Tryz.func191, by kernel_rfl, by kernel_rfl⟩
noncomputable def Zc1 : Hints := ⟨[(143, Znl), (147, Znm), (148, Zpn), (145, fun _ => none)], [(131, Tryz.f131, Z37), (146, Tryz.f146, Zjd), (144, Tryz.f144, Zje), (164, Tryz.f164, Ziv), (190, Tryz.f190, Zjf), (167, Tryz.f167, Zih), (191, Tryz.f191, Zjg)], [233, 235, 236, 238, 183]⟩
theorem Zij {m n : Nat} {ds : List D} {d : D} (h : funD Tryz.prog Zc1 m n Z37 Tryz.f131 ds = some d) : DataSem Tryz.prog 131 ds d := data_sound (H := Zc1) (SpOk.cons Zw2 (SpOk.cons Zyu (SpOk.cons Zzo (SpOk.cons (fun _ _ h => by cases h) SpOk.nil)))) mixed (InlOk.cons Tryz.func131 Z6f (InlOk.cons Tryz.func146 Zjh (InlOk.cons Tryz.func144 Zji (InlOk.cons Tryz.func164 Ziw (InlOk.cons Tryz.func190 Zjj (InlOk.cons Tryz.func167 Zii (InlOk.cons Tryz.func191 Zjk InlOk.nil))))))) Tryz.func131 Z6f h
def Zlr : List D := [(D.agg [(D.v (.int .u8 (1 : Int))), (D.v (.string (ByteArray.mk #[104, 116, 116, 112, 58, 47, 47, 97]))), (D.v (.bool false)), zU, (D.v (.string (ByteArray.mk #[]))), (D.list 0 (some 0) []), (D.v (.bool false)), zU, (D.v (.string (ByteArray.mk #[]))), (D.v (.int .u8 (0 : Int))), zU, zU, zU, zU, zU, zU, zU, zU, zU, zU, zU, zU, zU, zU, zU, zU, (D.list 0 (some 0) [])])]
def Zls : D := (D.agg [(D.v (.int .u8 (0 : Int))), (D.v (.bool true)), (D.v (.int .u32 (16 : Int))), (D.list 0 (some 0) []), (D.list 2 (some 2) [(D.v (.int .u8 (0 : Int))), (D.v (.bool false)), (D.v (.int .u32 (6 : Int))), (D.list 8 none [(D.v (.int .u8 (43 : Int))), (D.v (.int .u8 (6 : Int))), (D.v (.int .u8 (1 : Int))), (D.v (.int .u8 (5 : Int))), (D.v (.int .u8 (5 : Int))), (D.v (.int .u8 (7 : Int))), (D.v (.int .u8 (2 : Int))), (D.v (.int .u8 (1 : Int)))]), (D.list 0 (some 0) []), (D.v (.int .u8 (0 : Int))), (D.v (.bool false)), (D.v (.int .u32 (22 : Int))), (D.list 8 none [(D.v (.int .u8 (104 : Int))), (D.v (.int .u8 (116 : Int))), (D.v (.int .u8 (116 : Int))), (D.v (.int .u8 (112 : Int))), (D.v (.int .u8 (58 : Int))), (D.v (.int .u8 (47 : Int))), (D.v (.int .u8 (47 : Int))), (D.v (.int .u8 (97 : Int)))]), (D.list 0 (some 0) [])])])
def Zlt : List D := [(D.agg [(D.v (.int .u8 (2 : Int))), (D.v (.string (ByteArray.mk #[]))), (D.v (.bool false)), zU, (D.v (.string (ByteArray.mk #[]))), (D.list 0 (some 0) []), (D.v (.bool true)), (D.v (.int .u32 (12 : Int))), (D.v (.string (ByteArray.mk #[98]))), (D.v (.int .u8 (0 : Int))), zU, zU, zU, zU, zU, zU, zU, zU, zU, zU, zU, zU, zU, zU, zU, zU, (D.list 0 (some 0) [])])]
def Zlu : D := (D.agg [(D.v (.int .u8 (0 : Int))), (D.v (.bool true)), (D.v (.int .u32 (16 : Int))), (D.list 0 (some 0) []), (D.list 2 (some 2) [(D.v (.int .u8 (0 : Int))), (D.v (.bool false)), (D.v (.int .u32 (6 : Int))), (D.list 8 none [(D.v (.int .u8 (43 : Int))), (D.v (.int .u8 (6 : Int))), (D.v (.int .u8 (1 : Int))), (D.v (.int .u8 (5 : Int))), (D.v (.int .u8 (5 : Int))), (D.v (.int .u8 (7 : Int))), (D.v (.int .u8 (2 : Int))), (D.v (.int .u8 (2 : Int)))]), (D.list 0 (some 0) []), (D.v (.int .u8 (0 : Int))), (D.v (.bool true)), (D.v (.int .u32 (16 : Int))), (D.list 0 (some 0) []), (D.list 1 none [(D.v (.int .u8 (0 : Int))), (D.v (.bool false)), (D.v (.int .u32 (12 : Int))), (D.list 1 none [(D.v (.int .u8 (98 : Int)))]), (D.list 0 (some 0) [])])])])
theorem Zso : funD Tryz.prog Zc1 100000 60 Z37 Tryz.f131 Zlr = some Zls := by kernel_rfl
theorem Zsp : funD Tryz.prog Zc1 100000 60 Z37 Tryz.f131 Zlt = some Zlu := by kernel_rfl
def Zix (ds : List D) : Option D := if isT Zlr ds then some Zls else (if isT Zlt ds then some Zlu else (none))
theorem Zur : ∀ ds d, Zix ds = some d → DataSem Tryz.prog 131 ds d := by
  intro ds d h
  unfold Zix at h
  split at h
  · rename_i ha; obtain rfl := isT_eq ha; cases h; exact Zij Zso
  split at h
  · rename_i ha; obtain rfl := isT_eq ha; cases h; exact Zij Zsp
  cases h

def Z56 : FnH := ⟨[(3, ⟨(bm 26 33), [(3, 1)], some 1000000⟩)], []⟩
def Zn0 : FnH := ⟨[], []⟩
def Zkl : FnH := ⟨[(3, ⟨(bm 9 22), [(3, 1)], some 1000000⟩)], []⟩
def Zn1 : FnH := ⟨[(4, ⟨(bm 9 26), [(3, 1)], some 1000000⟩)], []⟩
theorem Zej : Enters Tryz.prog 133 := ⟨Tryz.f133, Tryz.func133, by kernel_rfl, by kernel_rfl⟩
theorem Zn2 : Enters Tryz.prog 150 := ⟨Tryz.f150, Tryz.func150, by kernel_rfl, by kernel_rfl⟩
theorem Zkm : Enters Tryz.prog 166 := ⟨Tryz.f166, Tryz.func166, by kernel_rfl, by kernel_rfl⟩
theorem Zn3 : Enters Tryz.prog 151 := ⟨Tryz.f151, Tryz.func151, by kernel_rfl, by kernel_rfl⟩
noncomputable def Zjl : Hints := ⟨[], [(133, Tryz.f133, Z56), (150, Tryz.f150, Zn0), (166, Tryz.f166, Zkl), (151, Tryz.f151, Zn1)], [233, 235, 236, 238, 183]⟩
theorem Zn4 {m n : Nat} {ds : List D} {d : D} (h : funD Tryz.prog Zjl m n Z56 Tryz.f133 ds = some d) : DataSem Tryz.prog 133 ds d := data_sound (H := Zjl) SpOk.nil mixed (InlOk.cons Tryz.func133 Zej (InlOk.cons Tryz.func150 Zn2 (InlOk.cons Tryz.func166 Zkm (InlOk.cons Tryz.func151 Zn3 InlOk.nil)))) Tryz.func133 Zej h
def Zr2 : List D := [(D.agg [(D.v (.int .u8 (0 : Int))), (D.v (.bool true)), (D.v (.int .u32 (16 : Int))), (D.list 0 (some 0) []), (D.list 2 (some 2) [(D.v (.int .u8 (0 : Int))), (D.v (.bool false)), (D.v (.int .u32 (6 : Int))), (D.list 8 none [(D.v (.int .u8 (43 : Int))), (D.v (.int .u8 (6 : Int))), (D.v (.int .u8 (1 : Int))), (D.v (.int .u8 (5 : Int))), (D.v (.int .u8 (5 : Int))), (D.v (.int .u8 (7 : Int))), (D.v (.int .u8 (2 : Int))), (D.v (.int .u8 (1 : Int)))]), (D.list 0 (some 0) []), (D.v (.int .u8 (0 : Int))), (D.v (.bool false)), (D.v (.int .u32 (22 : Int))), (D.list 8 none [(D.v (.int .u8 (104 : Int))), (D.v (.int .u8 (116 : Int))), (D.v (.int .u8 (116 : Int))), (D.v (.int .u8 (112 : Int))), (D.v (.int .u8 (58 : Int))), (D.v (.int .u8 (47 : Int))), (D.v (.int .u8 (47 : Int))), (D.v (.int .u8 (97 : Int)))]), (D.list 0 (some 0) [])])])]
def Zr3 : D := (D.list 22 none [(D.v (.int .u8 (48 : Int))), (D.v (.int .u8 (20 : Int))), (D.v (.int .u8 (6 : Int))), (D.v (.int .u8 (8 : Int))), (D.v (.int .u8 (43 : Int))), (D.v (.int .u8 (6 : Int))), (D.v (.int .u8 (1 : Int))), (D.v (.int .u8 (5 : Int))), (D.v (.int .u8 (5 : Int))), (D.v (.int .u8 (7 : Int))), (D.v (.int .u8 (2 : Int))), (D.v (.int .u8 (1 : Int))), (D.v (.int .u8 (22 : Int))), (D.v (.int .u8 (8 : Int))), (D.v (.int .u8 (104 : Int))), (D.v (.int .u8 (116 : Int))), (D.v (.int .u8 (116 : Int))), (D.v (.int .u8 (112 : Int))), (D.v (.int .u8 (58 : Int))), (D.v (.int .u8 (47 : Int))), (D.v (.int .u8 (47 : Int))), (D.v (.int .u8 (97 : Int)))])
def Zr4 : List D := [(D.agg [(D.v (.int .u8 (0 : Int))), (D.v (.bool true)), (D.v (.int .u32 (16 : Int))), (D.list 0 (some 0) []), (D.list 2 (some 2) [(D.v (.int .u8 (0 : Int))), (D.v (.bool false)), (D.v (.int .u32 (6 : Int))), (D.list 8 none [(D.v (.int .u8 (43 : Int))), (D.v (.int .u8 (6 : Int))), (D.v (.int .u8 (1 : Int))), (D.v (.int .u8 (5 : Int))), (D.v (.int .u8 (5 : Int))), (D.v (.int .u8 (7 : Int))), (D.v (.int .u8 (2 : Int))), (D.v (.int .u8 (2 : Int)))]), (D.list 0 (some 0) []), (D.v (.int .u8 (0 : Int))), (D.v (.bool true)), (D.v (.int .u32 (16 : Int))), (D.list 0 (some 0) []), (D.list 1 none [(D.v (.int .u8 (0 : Int))), (D.v (.bool false)), (D.v (.int .u32 (12 : Int))), (D.list 1 none [(D.v (.int .u8 (98 : Int)))]), (D.list 0 (some 0) [])])])])]
def Zr5 : D := (D.list 17 none [(D.v (.int .u8 (48 : Int))), (D.v (.int .u8 (15 : Int))), (D.v (.int .u8 (6 : Int))), (D.v (.int .u8 (8 : Int))), (D.v (.int .u8 (43 : Int))), (D.v (.int .u8 (6 : Int))), (D.v (.int .u8 (1 : Int))), (D.v (.int .u8 (5 : Int))), (D.v (.int .u8 (5 : Int))), (D.v (.int .u8 (7 : Int))), (D.v (.int .u8 (2 : Int))), (D.v (.int .u8 (2 : Int))), (D.v (.int .u8 (48 : Int))), (D.v (.int .u8 (3 : Int))), (D.v (.int .u8 (12 : Int))), (D.v (.int .u8 (1 : Int))), (D.v (.int .u8 (98 : Int)))])
theorem Zxe : funD Tryz.prog Zjl 100000 60 Z56 Tryz.f133 Zr2 = some Zr3 := by kernel_rfl
theorem Zxf : funD Tryz.prog Zjl 100000 60 Z56 Tryz.f133 Zr4 = some Zr5 := by kernel_rfl
def Zpo (ds : List D) : Option D := if isT Zr2 ds then some Zr3 else (if isT Zr4 ds then some Zr5 else (none))
theorem Zzp : ∀ ds d, Zpo ds = some d → DataSem Tryz.prog 133 ds d := by
  intro ds d h
  unfold Zpo at h
  split at h
  · rename_i ha; obtain rfl := isT_eq ha; cases h; exact Zn4 Zxe
  split at h
  · rename_i ha; obtain rfl := isT_eq ha; cases h; exact Zn4 Zxf
  cases h

def Z3t : FnH := ⟨[(12, ⟨(bm 1546 70), [], some 1000000⟩)], []⟩
def Zjm : FnH := ⟨[], []⟩
theorem Z9b : Enters Tryz.prog 149 := ⟨Tryz.f149, Tryz.func149, by kernel_rfl, by kernel_rfl⟩
theorem Zjn : Enters Tryz.prog 167 := ⟨Tryz.f167, Tryz.func167, by kernel_rfl, by kernel_rfl⟩
noncomputable def Zff : Hints := ⟨[], [(149, Tryz.f149, Z3t), (167, Tryz.f167, Zjm)], [233, 235, 236, 238, 183]⟩
theorem Zkn {m n : Nat} {ds : List D} {d : D} (h : funD Tryz.prog Zff m n Z3t Tryz.f149 ds = some d) : DataSem Tryz.prog 149 ds d := data_sound (H := Zff) SpOk.nil mixed (InlOk.cons Tryz.func149 Z9b (InlOk.cons Tryz.func167 Zjn InlOk.nil)) Tryz.func149 Z9b h
def Zob : List D := [(D.agg [(D.v (.int .u8 (0 : Int))), (D.v (.bool true)), (D.v (.int .u32 (16 : Int))), (D.list 0 (some 0) []), (D.list 2 (some 2) [(D.v (.int .u8 (0 : Int))), (D.v (.bool false)), (D.v (.int .u32 (6 : Int))), (D.list 8 none [(D.v (.int .u8 (43 : Int))), (D.v (.int .u8 (6 : Int))), (D.v (.int .u8 (1 : Int))), (D.v (.int .u8 (5 : Int))), (D.v (.int .u8 (5 : Int))), (D.v (.int .u8 (7 : Int))), (D.v (.int .u8 (2 : Int))), (D.v (.int .u8 (1 : Int)))]), (D.list 0 (some 0) []), (D.v (.int .u8 (0 : Int))), (D.v (.bool false)), (D.v (.int .u32 (22 : Int))), (D.list 8 none [(D.v (.int .u8 (104 : Int))), (D.v (.int .u8 (116 : Int))), (D.v (.int .u8 (116 : Int))), (D.v (.int .u8 (112 : Int))), (D.v (.int .u8 (58 : Int))), (D.v (.int .u8 (47 : Int))), (D.v (.int .u8 (47 : Int))), (D.v (.int .u8 (97 : Int)))]), (D.list 0 (some 0) [])])]), (D.v (.int .i64 (1 : Int))), zI]
def Zoc : D := (D.tup [zI, (D.v (.int .i64 (3 : Int)))])
def Zod : List D := [(D.agg [(D.v (.int .u8 (0 : Int))), (D.v (.bool true)), (D.v (.int .u32 (16 : Int))), (D.list 0 (some 0) []), (D.list 2 (some 2) [(D.v (.int .u8 (0 : Int))), (D.v (.bool false)), (D.v (.int .u32 (6 : Int))), (D.list 8 none [(D.v (.int .u8 (43 : Int))), (D.v (.int .u8 (6 : Int))), (D.v (.int .u8 (1 : Int))), (D.v (.int .u8 (5 : Int))), (D.v (.int .u8 (5 : Int))), (D.v (.int .u8 (7 : Int))), (D.v (.int .u8 (2 : Int))), (D.v (.int .u8 (2 : Int)))]), (D.list 0 (some 0) []), (D.v (.int .u8 (0 : Int))), (D.v (.bool true)), (D.v (.int .u32 (16 : Int))), (D.list 0 (some 0) []), (D.list 1 none [(D.v (.int .u8 (0 : Int))), (D.v (.bool false)), (D.v (.int .u32 (12 : Int))), (D.list 1 none [(D.v (.int .u8 (98 : Int)))]), (D.list 0 (some 0) [])])])]), (D.v (.int .i64 (1 : Int))), zI]
def Zoe : D := (D.tup [zI, (D.v (.int .i64 (4 : Int)))])
theorem Zus : funD Tryz.prog Zff 100000 60 Z3t Tryz.f149 Zob = some Zoc := by kernel_rfl
theorem Zut : funD Tryz.prog Zff 100000 60 Z3t Tryz.f149 Zod = some Zoe := by kernel_rfl
def Zmh (ds : List D) : Option D := if isT Zob ds then some Zoc else (if isT Zod ds then some Zoe else (none))
theorem Zxg : ∀ ds d, Zmh ds = some d → DataSem Tryz.prog 149 ds d := by
  intro ds d h
  unfold Zmh at h
  split at h
  · rename_i ha; obtain rfl := isT_eq ha; cases h; exact Zkn Zus
  split at h
  · rename_i ha; obtain rfl := isT_eq ha; cases h; exact Zkn Zut
  cases h

def Z3u : FnH := ⟨[], []⟩
def Zjo : FnH := ⟨[], []⟩
theorem Z9c : Enters Tryz.prog 104 := ⟨Tryz.f104, Tryz.func104, by kernel_rfl, by kernel_rfl⟩
theorem Zjp : Enters Tryz.prog 132 := ⟨Tryz.f132, Tryz.func132, by kernel_rfl, by kernel_rfl⟩
noncomputable def Zfg : Hints := ⟨[(129, Znk), (130, Zki), (131, Zix), (133, Zpo), (149, Zmh)], [(104, Tryz.f104, Z3u), (132, Tryz.f132, Zjo)], [233, 235, 236, 238, 183]⟩
theorem Zko {m n : Nat} {ds : List D} {d : D} (h : funD Tryz.prog Zfg m n Z3u Tryz.f104 ds = some d) : DataSem Tryz.prog 104 ds d := data_sound (H := Zfg) (SpOk.cons Zyr (SpOk.cons Zw3 (SpOk.cons Zur (SpOk.cons Zzp (SpOk.cons Zxg SpOk.nil))))) mixed (InlOk.cons Tryz.func104 Z9c (InlOk.cons Tryz.func132 Zjp InlOk.nil)) Tryz.func104 Z9c h
def Zof : List D := [(D.agg [(D.v (.int .u8 (1 : Int))), (D.v (.string (ByteArray.mk #[104, 116, 116, 112, 58, 47, 47, 97]))), (D.v (.bool false)), zU, (D.v (.string (ByteArray.mk #[]))), (D.list 0 (some 0) []), (D.v (.bool false)), zU, (D.v (.string (ByteArray.mk #[]))), (D.v (.int .u8 (0 : Int))), zU, zU, zU, zU, zU, zU, zU, zU, zU, zU, zU, zU, zU, zU, zU, zU, (D.list 0 (some 0) [])])]
def Zog : D := zI
def Zoh : List D := [(D.agg [(D.v (.int .u8 (2 : Int))), (D.v (.string (ByteArray.mk #[]))), (D.v (.bool false)), zU, (D.v (.string (ByteArray.mk #[]))), (D.list 0 (some 0) []), (D.v (.bool true)), (D.v (.int .u32 (12 : Int))), (D.v (.string (ByteArray.mk #[98]))), (D.v (.int .u8 (0 : Int))), zU, zU, zU, zU, zU, zU, zU, zU, zU, zU, zU, zU, zU, zU, zU, zU, (D.list 0 (some 0) [])])]
def Zoi : D := zI
theorem Zuu : funD Tryz.prog Zfg 100000 60 Z3u Tryz.f104 Zof = some Zog := by kernel_rfl
theorem Zuv : funD Tryz.prog Zfg 100000 60 Z3u Tryz.f104 Zoh = some Zoi := by kernel_rfl
def Zd5 (ds : List D) : Option D := if isT Zof ds then some Zog else (if isT Zoh ds then some Zoi else (none))
theorem Zxh : ∀ ds d, Zd5 ds = some d → DataSem Tryz.prog 104 ds d := by
  intro ds d h
  unfold Zd5 at h
  split at h
  · rename_i ha; obtain rfl := isT_eq ha; cases h; exact Zko Zuu
  split at h
  · rename_i ha; obtain rfl := isT_eq ha; cases h; exact Zko Zuv
  cases h

end Go.Ev
