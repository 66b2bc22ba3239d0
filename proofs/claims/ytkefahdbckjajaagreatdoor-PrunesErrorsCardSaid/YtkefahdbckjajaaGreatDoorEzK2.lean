/- Closed calls of the reference at the two qualifiers of the examples. No conditions. -/
import Derived.Test.YtkefahdbckjajaaGreatDoorEzI
set_option linter.unusedVariables false
set_option maxRecDepth 1000000
namespace Go.Ev
open Go Go.Proofs
def Z3r : FnH := ⟨[], []⟩
theorem Zba : Enters Tryz.prog 129 := ⟨Tryz.f129, Tryz.func129, by kernel_rfl, by kernel_rfl⟩
noncomputable def Zfs : Hints := ⟨[], [(129, Tryz.f129, Z3r)], [233, 235, 236, 238, 183]⟩
theorem Zjo {m n : Nat} {ds : List D} {d : D} (h : funD Tryz.prog Zfs m n Z3r Tryz.f129 ds = some d) : DataSem Tryz.prog 129 ds d := data_sound (H := Zfs) SpOk.nil mixed (InlOk.cons Tryz.func129 Zba InlOk.nil) Tryz.func129 Zba h
def Zn3 : List D := [(D.agg [(D.v (.int .u8 (1 : Int))), (D.v (.string (ByteArray.mk #[104, 116, 116, 112, 58, 47, 47, 97]))), (D.v (.bool false)), zU, (D.v (.string (ByteArray.mk #[]))), (D.list 0 (some 0) []), (D.v (.bool false)), zU, (D.v (.string (ByteArray.mk #[]))), (D.v (.int .u8 (0 : Int))), zU, zU, zU, zU, zU, zU, zU, zU, zU, zU, zU, zU, zU, zU, zU, zU, (D.list 0 (some 0) [])])]
def Zn4 : D := (D.v (.bool true))
def Zn5 : List D := [(D.agg [(D.v (.int .u8 (2 : Int))), (D.v (.string (ByteArray.mk #[]))), (D.v (.bool false)), zU, (D.v (.string (ByteArray.mk #[]))), (D.list 0 (some 0) []), (D.v (.bool true)), (D.v (.int .u32 (12 : Int))), (D.v (.string (ByteArray.mk #[98]))), (D.v (.int .u8 (0 : Int))), zU, zU, zU, zU, zU, zU, zU, zU, zU, zU, zU, zU, zU, zU, zU, zU, (D.list 0 (some 0) [])])]
def Zn6 : D := (D.v (.bool true))
theorem Zsn : funD Tryz.prog Zfs 100000 60 Z3r Tryz.f129 Zn3 = some Zn4 := by kernel_rfl
theorem Zso : funD Tryz.prog Zfs 100000 60 Z3r Tryz.f129 Zn5 = some Zn6 := by kernel_rfl
def Zl9 (ds : List D) : Option D := if isT Zn3 ds then some Zn4 else (if isT Zn5 ds then some Zn6 else (none))
theorem Zul : ∀ ds d, Zl9 ds = some d → DataSem Tryz.prog 129 ds d := by
  intro ds d h
  unfold Zl9 at h
  split at h
  · rename_i ha; obtain rfl := isT_eq ha; cases h; exact Zjo Zsn
  split at h
  · rename_i ha; obtain rfl := isT_eq ha; cases h; exact Zjo Zso
  cases h

def Z4l : FnH := ⟨[(9, ⟨(bm 17179869194 77), [], some 1000000⟩)], []⟩
def Ze8 : FnH := ⟨[(1, ⟨(bm 1 169), [], none⟩), (9, ⟨(bm 1 169), [], none⟩)], []⟩
def Ze9 : FnH := ⟨[], []⟩
theorem Z8f : Enters Tryz.prog 142 := ⟨Tryz.f142, Tryz.func142, by kernel_rfl, by kernel_rfl⟩
theorem Zea : Enters Tryz.prog 163 := ⟨Tryz.f163, Tryz.func163, by kernel_rfl, by kernel_rfl⟩
theorem Zeb : Enters Tryz.prog 189 := ⟨Tryz.f189, Tryz.func189, by kernel_rfl, by kernel_rfl⟩
noncomputable def Zic : Hints := ⟨[], [(142, Tryz.f142, Z4l), (163, Tryz.f163, Ze8), (189, Tryz.f189, Ze9)], [233, 235, 236, 238, 183]⟩
theorem Zp1 {m n : Nat} {ds : List D} {d : D} (h : funD Tryz.prog Zic m n Z4l Tryz.f142 ds = some d) : DataSem Tryz.prog 142 ds d := data_sound (H := Zic) SpOk.nil mixed (InlOk.cons Tryz.func142 Z8f (InlOk.cons Tryz.func163 Zea (InlOk.cons Tryz.func189 Zeb InlOk.nil))) Tryz.func142 Z8f h
def Zlu : List D := [(D.agg [(D.v (.int .u32 (12 : Int))), (D.v (.string (ByteArray.mk #[98])))])]
def Zlv : D := zI
theorem Zrq : funD Tryz.prog Zic 100000 60 Z4l Tryz.f142 Zlu = some Zlv := by kernel_rfl
def Zk9 (ds : List D) : Option D := if isT Zlu ds then some Zlv else (none)
theorem Ztn : ∀ ds d, Zk9 ds = some d → DataSem Tryz.prog 142 ds d := by
  intro ds d h
  unfold Zk9 at h
  split at h
  · rename_i ha; obtain rfl := isT_eq ha; cases h; exact Zp1 Zrq
  cases h

def Z51 : FnH := ⟨[], []⟩
theorem Zfe : Enters Tryz.prog 143 := ⟨Tryz.f143, Tryz.func143, by kernel_rfl, by kernel_rfl⟩
noncomputable def Zjp : Hints := ⟨[], [(143, Tryz.f143, Z51)], [233, 235, 236, 238, 183]⟩
theorem Zlw {m n : Nat} {ds : List D} {d : D} (h : funD Tryz.prog Zjp m n Z51 Tryz.f143 ds = some d) : DataSem Tryz.prog 143 ds d := data_sound (H := Zjp) SpOk.nil mixed (InlOk.cons Tryz.func143 Zfe InlOk.nil) Tryz.func143 Zfe h
def Zq1 : List D := [(D.v (.int .u32 (1 : Int)))]
def Zq2 : D := (D.agg [(D.v (.int .u8 (9 : Int))), (D.v (.int .u32 (1 : Int))), (D.v (.int .u32 (3 : Int))), (D.v (.int .u32 (6 : Int))), (D.v (.int .u32 (1 : Int))), (D.v (.int .u32 (5 : Int))), (D.v (.int .u32 (5 : Int))), (D.v (.int .u32 (7 : Int))), (D.v (.int .u32 (2 : Int))), (D.v (.int .u32 (1 : Int))), zU, zU, zU, zU, zU, zU, zU])
def Zq3 : List D := [(D.v (.int .u32 (2 : Int)))]
def Zq4 : D := (D.agg [(D.v (.int .u8 (9 : Int))), (D.v (.int .u32 (1 : Int))), (D.v (.int .u32 (3 : Int))), (D.v (.int .u32 (6 : Int))), (D.v (.int .u32 (1 : Int))), (D.v (.int .u32 (5 : Int))), (D.v (.int .u32 (5 : Int))), (D.v (.int .u32 (7 : Int))), (D.v (.int .u32 (2 : Int))), (D.v (.int .u32 (2 : Int))), zU, zU, zU, zU, zU, zU, zU])
theorem Zum : funD Tryz.prog Zjp 100000 60 Z51 Tryz.f143 Zq1 = some Zq2 := by kernel_rfl
theorem Zun : funD Tryz.prog Zjp 100000 60 Z51 Tryz.f143 Zq3 = some Zq4 := by kernel_rfl
def Zla (ds : List D) : Option D := if isT Zq1 ds then some Zq2 else (if isT Zq3 ds then some Zq4 else (none))
theorem Zsp : ∀ ds d, Zla ds = some d → DataSem Tryz.prog 143 ds d := by
  intro ds d h
  unfold Zla at h
  split at h
  · rename_i ha; obtain rfl := isT_eq ha; cases h; exact Zlw Zum
  split at h
  · rename_i ha; obtain rfl := isT_eq ha; cases h; exact Zlw Zun
  cases h

def Z37 : FnH := ⟨[(6, ⟨(bm 10 76), [], some 1000000⟩)], []⟩
def Zid : FnH := ⟨[], []⟩
def Zhi : FnH := ⟨[(22, ⟨(bm 7865353 147), [], some 1000000⟩)], []⟩
def Zie : FnH := ⟨[(7, ⟨(bm 229 87), [], some 1000000⟩)], []⟩
def Zh3 : FnH := ⟨[], []⟩
def Zif : FnH := ⟨[(12, ⟨(bm 225 59), [], some 1000000⟩)], []⟩
theorem Z6v : Enters Tryz.prog 130 := ⟨Tryz.f130, Tryz.func130, by kernel_rfl, by kernel_rfl⟩
theorem Zig : Enters Tryz.prog 144 := ⟨Tryz.f144, Tryz.func144, by kernel_rfl, by kernel_rfl⟩
theorem Zhj : Enters Tryz.prog 164 := ⟨Tryz.f164, Tryz.func164, by kernel_rfl, by kernel_rfl⟩
theorem Zih : Enters Tryz.prog 190 := ⟨Tryz.f190, Tryz.func190, by kernel_rfl, by kernel_rfl⟩
theorem Zh4 : Enters Tryz.prog 167 := ⟨Tryz.f167, Tryz.func167, by kernel_rfl, by kernel_rfl⟩
theorem Zii : Enters Tryz.prog 191 := ⟨Tryz.f191, Tryz.func191, by kernel_rfl, by kernel_rfl⟩
noncomputable def Zcf : Hints := ⟨[(142, Zk9), (143, Zla), (91, fun _ => none)], [(130, Tryz.f130, Z37), (144, Tryz.f144, Zid), (164, Tryz.f164, Zhi), (190, Tryz.f190, Zie), (167, Tryz.f167, Zh3), (191, Tryz.f191, Zif)], [233, 235, 236, 238, 183]⟩
theorem Zhc {m n : Nat} {ds : List D} {d : D} (h : funD Tryz.prog Zcf m n Z37 Tryz.f130 ds = some d) : DataSem Tryz.prog 130 ds d := data_sound (H := Zcf) (SpOk.cons Ztn (SpOk.cons Zsp (SpOk.cons (fun _ _ h => by cases h) SpOk.nil))) mixed (InlOk.cons Tryz.func130 Z6v (InlOk.cons Tryz.func144 Zig (InlOk.cons Tryz.func164 Zhj (InlOk.cons Tryz.func190 Zih (InlOk.cons Tryz.func167 Zh4 (InlOk.cons Tryz.func191 Zii InlOk.nil)))))) Tryz.func130 Z6v h
def Zkq : List D := [(D.agg [(D.v (.int .u8 (1 : Int))), (D.v (.string (ByteArray.mk #[104, 116, 116, 112, 58, 47, 47, 97]))), (D.v (.bool false)), zU, (D.v (.string (ByteArray.mk #[]))), (D.list 0 (some 0) []), (D.v (.bool false)), zU, (D.v (.string (ByteArray.mk #[]))), (D.v (.int .u8 (0 : Int))), zU, zU, zU, zU, zU, zU, zU, zU, zU, zU, zU, zU, zU, zU, zU, zU, (D.list 0 (some 0) [])])]
def Zkr : D := zI
def Zks : List D := [(D.agg [(D.v (.int .u8 (2 : Int))), (D.v (.string (ByteArray.mk #[]))), (D.v (.bool false)), zU, (D.v (.string (ByteArray.mk #[]))), (D.list 0 (some 0) []), (D.v (.bool true)), (D.v (.int .u32 (12 : Int))), (D.v (.string (ByteArray.mk #[98]))), (D.v (.int .u8 (0 : Int))), zU, zU, zU, zU, zU, zU, zU, zU, zU, zU, zU, zU, zU, zU, zU, zU, (D.list 0 (some 0) [])])]
def Zkt : D := zI
theorem Zqu : funD Tryz.prog Zcf 100000 60 Z37 Tryz.f130 Zkq = some Zkr := by kernel_rfl
theorem Zqv : funD Tryz.prog Zcf 100000 60 Z37 Tryz.f130 Zks = some Zkt := by kernel_rfl
def Zij (ds : List D) : Option D := if isT Zkq ds then some Zkr else (if isT Zks ds then some Zkt else (none))
theorem Zsq : ∀ ds d, Zij ds = some d → DataSem Tryz.prog 130 ds d := by
  intro ds d h
  unfold Zij at h
  split at h
  · rename_i ha; obtain rfl := isT_eq ha; cases h; exact Zhc Zqu
  split at h
  · rename_i ha; obtain rfl := isT_eq ha; cases h; exact Zhc Zqv
  cases h

def Z3q : FnH := ⟨[(5, ⟨(bm 16392 28), [(3, 1)], some 1000000⟩)], []⟩
theorem Z5k : Enters Tryz.prog 165 := ⟨Tryz.f165, Tryz.func165, by kernel_rfl, by kernel_rfl⟩
noncomputable def Zfi : Hints := ⟨[], [(165, Tryz.f165, Z3q)], [233, 235, 236, 238, 183]⟩
theorem Zn7 {m n : Nat} {ds : List D} {d : D} (h : funD Tryz.prog Zfi m n Z3q Tryz.f165 ds = some d) : DataSem Tryz.prog 165 ds d := data_sound (H := Zfi) SpOk.nil mixed (InlOk.cons Tryz.func165 Z5k InlOk.nil) Tryz.func165 Z5k h
def Zjq : List D := [(D.agg [(D.v (.int .u32 (12 : Int))), (D.v (.string (ByteArray.mk #[98])))])]
def Zjr : D := (D.list 1 none [(D.v (.int .u8 (98 : Int)))])
theorem Zq5 : funD Tryz.prog Zfi 100000 60 Z3q Tryz.f165 Zjq = some Zjr := by kernel_rfl
def Zh5 (ds : List D) : Option D := if isT Zjq ds then some Zjr else (none)
theorem Zrr : ∀ ds d, Zh5 ds = some d → DataSem Tryz.prog 165 ds d := by
  intro ds d h
  unfold Zh5 at h
  split at h
  · rename_i ha; obtain rfl := isT_eq ha; cases h; exact Zn7 Zq5
  cases h

def Z53 : FnH := ⟨[], []⟩
theorem Zbb : Enters Tryz.prog 147 := ⟨Tryz.f147, Tryz.func147, by kernel_rfl, by kernel_rfl⟩
noncomputable def Zka : Hints := ⟨[(165, Zh5)], [(147, Tryz.f147, Z53)], [233, 235, 236, 238, 183]⟩
theorem Zq6 {m n : Nat} {ds : List D} {d : D} (h : funD Tryz.prog Zka m n Z53 Tryz.f147 ds = some d) : DataSem Tryz.prog 147 ds d := data_sound (H := Zka) (SpOk.cons Zrr SpOk.nil) mixed (InlOk.cons Tryz.func147 Zbb InlOk.nil) Tryz.func147 Zbb h
def Zn8 : List D := [(D.agg [(D.v (.int .u32 (12 : Int))), (D.v (.string (ByteArray.mk #[98])))])]
def Zn9 : D := (D.agg [(D.v (.int .u8 (0 : Int))), (D.v (.bool false)), (D.v (.int .u32 (12 : Int))), (D.list 1 none [(D.v (.int .u8 (98 : Int)))]), (D.list 0 (some 0) [])])
theorem Zsr : funD Tryz.prog Zka 100000 60 Z53 Tryz.f147 Zn8 = some Zn9 := by kernel_rfl
def Zlb (ds : List D) : Option D := if isT Zn8 ds then some Zn9 else (none)
theorem Zuo : ∀ ds d, Zlb ds = some d → DataSem Tryz.prog 147 ds d := by
  intro ds d h
  unfold Zlb at h
  split at h
  · rename_i ha; obtain rfl := isT_eq ha; cases h; exact Zq6 Zsr
  cases h

def Z4d : FnH := ⟨[(3, ⟨(bm 26 32), [(3, 1)], some 1000000⟩)], []⟩
def Zik : FnH := ⟨[(3, ⟨(bm 9 22), [(3, 1)], some 1000000⟩)], []⟩
theorem Zde : Enters Tryz.prog 148 := ⟨Tryz.f148, Tryz.func148, by kernel_rfl, by kernel_rfl⟩
theorem Zil : Enters Tryz.prog 166 := ⟨Tryz.f166, Tryz.func166, by kernel_rfl, by kernel_rfl⟩
noncomputable def Zhk : Hints := ⟨[], [(148, Tryz.f148, Z4d), (166, Tryz.f166, Zik)], [233, 235, 236, 238, 183]⟩
theorem Zku {m n : Nat} {ds : List D} {d : D} (h : funD Tryz.prog Zhk m n Z4d Tryz.f148 ds = some d) : DataSem Tryz.prog 148 ds d := data_sound (H := Zhk) SpOk.nil mixed (InlOk.cons Tryz.func148 Zde (InlOk.cons Tryz.func166 Zil InlOk.nil)) Tryz.func148 Zde h
def Zoh : List D := [(D.agg [(D.v (.int .u8 (9 : Int))), (D.v (.int .u32 (1 : Int))), (D.v (.int .u32 (3 : Int))), (D.v (.int .u32 (6 : Int))), (D.v (.int .u32 (1 : Int))), (D.v (.int .u32 (5 : Int))), (D.v (.int .u32 (5 : Int))), (D.v (.int .u32 (7 : Int))), (D.v (.int .u32 (2 : Int))), (D.v (.int .u32 (1 : Int))), zU, zU, zU, zU, zU, zU, zU])]
def Zoi : D := (D.list 8 none [(D.v (.int .u8 (43 : Int))), (D.v (.int .u8 (6 : Int))), (D.v (.int .u8 (1 : Int))), (D.v (.int .u8 (5 : Int))), (D.v (.int .u8 (5 : Int))), (D.v (.int .u8 (7 : Int))), (D.v (.int .u8 (2 : Int))), (D.v (.int .u8 (1 : Int)))])
def Zoj : List D := [(D.agg [(D.v (.int .u8 (9 : Int))), (D.v (.int .u32 (1 : Int))), (D.v (.int .u32 (3 : Int))), (D.v (.int .u32 (6 : Int))), (D.v (.int .u32 (1 : Int))), (D.v (.int .u32 (5 : Int))), (D.v (.int .u32 (5 : Int))), (D.v (.int .u32 (7 : Int))), (D.v (.int .u32 (2 : Int))), (D.v (.int .u32 (2 : Int))), zU, zU, zU, zU, zU, zU, zU])]
def Zok : D := (D.list 8 none [(D.v (.int .u8 (43 : Int))), (D.v (.int .u8 (6 : Int))), (D.v (.int .u8 (1 : Int))), (D.v (.int .u8 (5 : Int))), (D.v (.int .u8 (5 : Int))), (D.v (.int .u8 (7 : Int))), (D.v (.int .u8 (2 : Int))), (D.v (.int .u8 (2 : Int)))])
theorem Zto : funD Tryz.prog Zhk 100000 60 Z4d Tryz.f148 Zoh = some Zoi := by kernel_rfl
theorem Ztp : funD Tryz.prog Zhk 100000 60 Z4d Tryz.f148 Zoj = some Zok := by kernel_rfl
def Zna (ds : List D) : Option D := if isT Zoh ds then some Zoi else (if isT Zoj ds then some Zok else (none))
theorem Zv6 : ∀ ds d, Zna ds = some d → DataSem Tryz.prog 148 ds d := by
  intro ds d h
  unfold Zna at h
  split at h
  · rename_i ha; obtain rfl := isT_eq ha; cases h; exact Zku Zto
  split at h
  · rename_i ha; obtain rfl := isT_eq ha; cases h; exact Zku Ztp
  cases h

def Z2v : FnH := ⟨[(14, ⟨(bm 254 77), [(5, 5), (6, 5)], some 1000000⟩)], []⟩
def Zhl : FnH := ⟨[], []⟩
def Zhm : FnH := ⟨[], []⟩
def Zh6 : FnH := ⟨[(22, ⟨(bm 7865353 147), [], some 1000000⟩)], []⟩
def Zhn : FnH := ⟨[(7, ⟨(bm 229 87), [], some 1000000⟩)], []⟩
def Zgv : FnH := ⟨[], []⟩
def Zho : FnH := ⟨[(12, ⟨(bm 225 59), [], some 1000000⟩)], []⟩
theorem Z5l : Enters Tryz.prog 131 := ⟨Tryz.f131, Tryz.func131, by kernel_rfl, by kernel_rfl⟩
theorem Zhp : Enters Tryz.prog 146 := ⟨Tryz.f146, Tryz.func146, by kernel_rfl, by kernel_rfl⟩
theorem Zhq : Enters Tryz.prog 144 := ⟨Tryz.f144, Tryz.func144, by kernel_rfl, by kernel_rfl⟩
theorem Zh7 : Enters Tryz.prog 164 := ⟨Tryz.f164, Tryz.func164, by kernel_rfl, by kernel_rfl⟩
theorem Zhr : Enters Tryz.prog 190 := ⟨Tryz.f190, Tryz.func190, by kernel_rfl, by kernel_rfl⟩
theorem Zgw : Enters Tryz.prog 167 := ⟨Tryz.f167, Tryz.func167, by kernel_rfl, by kernel_rfl⟩
theorem Zhs : Enters Tryz.prog 191 := ⟨Tryz.f191, Tryz.func191, by kernel_rfl, by kernel_rfl⟩
noncomputable def Zb3 : Hints := ⟨[(143, Zla), (147, Zlb), (148, Zna), (145, fun _ => none)], [(131, Tryz.f131, Z2v), (146, Tryz.f146, Zhl), (144, Tryz.f144, Zhm), (164, Tryz.f164, Zh6), (190, Tryz.f190, Zhn), (167, Tryz.f167, Zgv), (191, Tryz.f191, Zho)], [233, 235, 236, 238, 183]⟩
theorem Zgx {m n : Nat} {ds : List D} {d : D} (h : funD Tryz.prog Zb3 m n Z2v Tryz.f131 ds = some d) : DataSem Tryz.prog 131 ds d := data_sound (H := Zb3) (SpOk.cons Zsp (SpOk.cons Zuo (SpOk.cons Zv6 (SpOk.cons (fun _ _ h => by cases h) SpOk.nil)))) mixed (InlOk.cons Tryz.func131 Z5l (InlOk.cons Tryz.func146 Zhp (InlOk.cons Tryz.func144 Zhq (InlOk.cons Tryz.func164 Zh7 (InlOk.cons Tryz.func190 Zhr (InlOk.cons Tryz.func167 Zgw (InlOk.cons Tryz.func191 Zhs InlOk.nil))))))) Tryz.func131 Z5l h
def Zjs : List D := [(D.agg [(D.v (.int .u8 (1 : Int))), (D.v (.string (ByteArray.mk #[104, 116, 116, 112, 58, 47, 47, 97]))), (D.v (.bool false)), zU, (D.v (.string (ByteArray.mk #[]))), (D.list 0 (some 0) []), (D.v (.bool false)), zU, (D.v (.string (ByteArray.mk #[]))), (D.v (.int .u8 (0 : Int))), zU, zU, zU, zU, zU, zU, zU, zU, zU, zU, zU, zU, zU, zU, zU, zU, (D.list 0 (some 0) [])])]
def Zjt : D := (D.agg [(D.v (.int .u8 (0 : Int))), (D.v (.bool true)), (D.v (.int .u32 (16 : Int))), (D.list 0 (some 0) []), (D.list 2 (some 2) [(D.v (.int .u8 (0 : Int))), (D.v (.bool false)), (D.v (.int .u32 (6 : Int))), (D.list 8 none [(D.v (.int .u8 (43 : Int))), (D.v (.int .u8 (6 : Int))), (D.v (.int .u8 (1 : Int))), (D.v (.int .u8 (5 : Int))), (D.v (.int .u8 (5 : Int))), (D.v (.int .u8 (7 : Int))), (D.v (.int .u8 (2 : Int))), (D.v (.int .u8 (1 : Int)))]), (D.list 0 (some 0) []), (D.v (.int .u8 (0 : Int))), (D.v (.bool false)), (D.v (.int .u32 (22 : Int))), (D.list 8 none [(D.v (.int .u8 (104 : Int))), (D.v (.int .u8 (116 : Int))), (D.v (.int .u8 (116 : Int))), (D.v (.int .u8 (112 : Int))), (D.v (.int .u8 (58 : Int))), (D.v (.int .u8 (47 : Int))), (D.v (.int .u8 (47 : Int))), (D.v (.int .u8 (97 : Int)))]), (D.list 0 (some 0) [])])])
def Zju : List D := [(D.agg [(D.v (.int .u8 (2 : Int))), (D.v (.string (ByteArray.mk #[]))), (D.v (.bool false)), zU, (D.v (.string (ByteArray.mk #[]))), (D.list 0 (some 0) []), (D.v (.bool true)), (D.v (.int .u32 (12 : Int))), (D.v (.string (ByteArray.mk #[98]))), (D.v (.int .u8 (0 : Int))), zU, zU, zU, zU, zU, zU, zU, zU, zU, zU, zU, zU, zU, zU, zU, zU, (D.list 0 (some 0) [])])]
def Zjv : D := (D.agg [(D.v (.int .u8 (0 : Int))), (D.v (.bool true)), (D.v (.int .u32 (16 : Int))), (D.list 0 (some 0) []), (D.list 2 (some 2) [(D.v (.int .u8 (0 : Int))), (D.v (.bool false)), (D.v (.int .u32 (6 : Int))), (D.list 8 none [(D.v (.int .u8 (43 : Int))), (D.v (.int .u8 (6 : Int))), (D.v (.int .u8 (1 : Int))), (D.v (.int .u8 (5 : Int))), (D.v (.int .u8 (5 : Int))), (D.v (.int .u8 (7 : Int))), (D.v (.int .u8 (2 : Int))), (D.v (.int .u8 (2 : Int)))]), (D.list 0 (some 0) []), (D.v (.int .u8 (0 : Int))), (D.v (.bool true)), (D.v (.int .u32 (16 : Int))), (D.list 0 (some 0) []), (D.list 1 none [(D.v (.int .u8 (0 : Int))), (D.v (.bool false)), (D.v (.int .u32 (12 : Int))), (D.list 1 none [(D.v (.int .u8 (98 : Int)))]), (D.list 0 (some 0) [])])])])
theorem Zq7 : funD Tryz.prog Zb3 100000 60 Z2v Tryz.f131 Zjs = some Zjt := by kernel_rfl
theorem Zq8 : funD Tryz.prog Zb3 100000 60 Z2v Tryz.f131 Zju = some Zjv := by kernel_rfl
def Zh8 (ds : List D) : Option D := if isT Zjs ds then some Zjt else (if isT Zju ds then some Zjv else (none))
theorem Zrs : ∀ ds d, Zh8 ds = some d → DataSem Tryz.prog 131 ds d := by
  intro ds d h
  unfold Zh8 at h
  split at h
  · rename_i ha; obtain rfl := isT_eq ha; cases h; exact Zgx Zq7
  split at h
  · rename_i ha; obtain rfl := isT_eq ha; cases h; exact Zgx Zq8
  cases h

def Z4e : FnH := ⟨[(3, ⟨(bm 26 33), [(3, 1)], some 1000000⟩)], []⟩
def Zkv : FnH := ⟨[], []⟩
def Zim : FnH := ⟨[(3, ⟨(bm 9 22), [(3, 1)], some 1000000⟩)], []⟩
def Zkw : FnH := ⟨[(4, ⟨(bm 9 26), [(3, 1)], some 1000000⟩)], []⟩
theorem Zdf : Enters Tryz.prog 133 := ⟨Tryz.f133, Tryz.func133, by kernel_rfl, by kernel_rfl⟩
theorem Zkx : Enters Tryz.prog 150 := ⟨Tryz.f150, Tryz.func150, by kernel_rfl, by kernel_rfl⟩
theorem Zin : Enters Tryz.prog 166 := ⟨Tryz.f166, Tryz.func166, by kernel_rfl, by kernel_rfl⟩
theorem Zky : Enters Tryz.prog 151 := ⟨Tryz.f151, Tryz.func151, by kernel_rfl, by kernel_rfl⟩
noncomputable def Zht : Hints := ⟨[], [(133, Tryz.f133, Z4e), (150, Tryz.f150, Zkv), (166, Tryz.f166, Zim), (151, Tryz.f151, Zkw)], [233, 235, 236, 238, 183]⟩
theorem Zkz {m n : Nat} {ds : List D} {d : D} (h : funD Tryz.prog Zht m n Z4e Tryz.f133 ds = some d) : DataSem Tryz.prog 133 ds d := data_sound (H := Zht) SpOk.nil mixed (InlOk.cons Tryz.func133 Zdf (InlOk.cons Tryz.func150 Zkx (InlOk.cons Tryz.func166 Zin (InlOk.cons Tryz.func151 Zky InlOk.nil)))) Tryz.func133 Zdf h
def Zol : List D := [(D.agg [(D.v (.int .u8 (0 : Int))), (D.v (.bool true)), (D.v (.int .u32 (16 : Int))), (D.list 0 (some 0) []), (D.list 2 (some 2) [(D.v (.int .u8 (0 : Int))), (D.v (.bool false)), (D.v (.int .u32 (6 : Int))), (D.list 8 none [(D.v (.int .u8 (43 : Int))), (D.v (.int .u8 (6 : Int))), (D.v (.int .u8 (1 : Int))), (D.v (.int .u8 (5 : Int))), (D.v (.int .u8 (5 : Int))), (D.v (.int .u8 (7 : Int))), (D.v (.int .u8 (2 : Int))), (D.v (.int .u8 (1 : Int)))]), (D.list 0 (some 0) []), (D.v (.int .u8 (0 : Int))), (D.v (.bool false)), (D.v (.int .u32 (22 : Int))), (D.list 8 none [(D.v (.int .u8 (104 : Int))), (D.v (.int .u8 (116 : Int))), (D.v (.int .u8 (116 : Int))), (D.v (.int .u8 (112 : Int))), (D.v (.int .u8 (58 : Int))), (D.v (.int .u8 (47 : Int))), (D.v (.int .u8 (47 : Int))), (D.v (.int .u8 (97 : Int)))]), (D.list 0 (some 0) [])])])]
def Zom : D := (D.list 22 none [(D.v (.int .u8 (48 : Int))), (D.v (.int .u8 (20 : Int))), (D.v (.int .u8 (6 : Int))), (D.v (.int .u8 (8 : Int))), (D.v (.int .u8 (43 : Int))), (D.v (.int .u8 (6 : Int))), (D.v (.int .u8 (1 : Int))), (D.v (.int .u8 (5 : Int))), (D.v (.int .u8 (5 : Int))), (D.v (.int .u8 (7 : Int))), (D.v (.int .u8 (2 : Int))), (D.v (.int .u8 (1 : Int))), (D.v (.int .u8 (22 : Int))), (D.v (.int .u8 (8 : Int))), (D.v (.int .u8 (104 : Int))), (D.v (.int .u8 (116 : Int))), (D.v (.int .u8 (116 : Int))), (D.v (.int .u8 (112 : Int))), (D.v (.int .u8 (58 : Int))), (D.v (.int .u8 (47 : Int))), (D.v (.int .u8 (47 : Int))), (D.v (.int .u8 (97 : Int)))])
def Zon : List D := [(D.agg [(D.v (.int .u8 (0 : Int))), (D.v (.bool true)), (D.v (.int .u32 (16 : Int))), (D.list 0 (some 0) []), (D.list 2 (some 2) [(D.v (.int .u8 (0 : Int))), (D.v (.bool false)), (D.v (.int .u32 (6 : Int))), (D.list 8 none [(D.v (.int .u8 (43 : Int))), (D.v (.int .u8 (6 : Int))), (D.v (.int .u8 (1 : Int))), (D.v (.int .u8 (5 : Int))), (D.v (.int .u8 (5 : Int))), (D.v (.int .u8 (7 : Int))), (D.v (.int .u8 (2 : Int))), (D.v (.int .u8 (2 : Int)))]), (D.list 0 (some 0) []), (D.v (.int .u8 (0 : Int))), (D.v (.bool true)), (D.v (.int .u32 (16 : Int))), (D.list 0 (some 0) []), (D.list 1 none [(D.v (.int .u8 (0 : Int))), (D.v (.bool false)), (D.v (.int .u32 (12 : Int))), (D.list 1 none [(D.v (.int .u8 (98 : Int)))]), (D.list 0 (some 0) [])])])])]
def Zoo : D := (D.list 17 none [(D.v (.int .u8 (48 : Int))), (D.v (.int .u8 (15 : Int))), (D.v (.int .u8 (6 : Int))), (D.v (.int .u8 (8 : Int))), (D.v (.int .u8 (43 : Int))), (D.v (.int .u8 (6 : Int))), (D.v (.int .u8 (1 : Int))), (D.v (.int .u8 (5 : Int))), (D.v (.int .u8 (5 : Int))), (D.v (.int .u8 (7 : Int))), (D.v (.int .u8 (2 : Int))), (D.v (.int .u8 (2 : Int))), (D.v (.int .u8 (48 : Int))), (D.v (.int .u8 (3 : Int))), (D.v (.int .u8 (12 : Int))), (D.v (.int .u8 (1 : Int))), (D.v (.int .u8 (98 : Int)))])
theorem Ztq : funD Tryz.prog Zht 100000 60 Z4e Tryz.f133 Zol = some Zom := by kernel_rfl
theorem Ztr : funD Tryz.prog Zht 100000 60 Z4e Tryz.f133 Zon = some Zoo := by kernel_rfl
def Znb (ds : List D) : Option D := if isT Zol ds then some Zom else (if isT Zon ds then some Zoo else (none))
theorem Zv7 : ∀ ds d, Znb ds = some d → DataSem Tryz.prog 133 ds d := by
  intro ds d h
  unfold Znb at h
  split at h
  · rename_i ha; obtain rfl := isT_eq ha; cases h; exact Zkz Ztq
  split at h
  · rename_i ha; obtain rfl := isT_eq ha; cases h; exact Zkz Ztr
  cases h

def Z3d : FnH := ⟨[(12, ⟨(bm 1546 70), [], some 1000000⟩)], []⟩
def Zhu : FnH := ⟨[], []⟩
theorem Z8g : Enters Tryz.prog 149 := ⟨Tryz.f149, Tryz.func149, by kernel_rfl, by kernel_rfl⟩
theorem Zhv : Enters Tryz.prog 167 := ⟨Tryz.f167, Tryz.func167, by kernel_rfl, by kernel_rfl⟩
noncomputable def Zec : Hints := ⟨[], [(149, Tryz.f149, Z3d), (167, Tryz.f167, Zhu)], [233, 235, 236, 238, 183]⟩
theorem Zio {m n : Nat} {ds : List D} {d : D} (h : funD Tryz.prog Zec m n Z3d Tryz.f149 ds = some d) : DataSem Tryz.prog 149 ds d := data_sound (H := Zec) SpOk.nil mixed (InlOk.cons Tryz.func149 Z8g (InlOk.cons Tryz.func167 Zhv InlOk.nil)) Tryz.func149 Z8g h
def Zlx : List D := [(D.agg [(D.v (.int .u8 (0 : Int))), (D.v (.bool true)), (D.v (.int .u32 (16 : Int))), (D.list 0 (some 0) []), (D.list 2 (some 2) [(D.v (.int .u8 (0 : Int))), (D.v (.bool false)), (D.v (.int .u32 (6 : Int))), (D.list 8 none [(D.v (.int .u8 (43 : Int))), (D.v (.int .u8 (6 : Int))), (D.v (.int .u8 (1 : Int))), (D.v (.int .u8 (5 : Int))), (D.v (.int .u8 (5 : Int))), (D.v (.int .u8 (7 : Int))), (D.v (.int .u8 (2 : Int))), (D.v (.int .u8 (1 : Int)))]), (D.list 0 (some 0) []), (D.v (.int .u8 (0 : Int))), (D.v (.bool false)), (D.v (.int .u32 (22 : Int))), (D.list 8 none [(D.v (.int .u8 (104 : Int))), (D.v (.int .u8 (116 : Int))), (D.v (.int .u8 (116 : Int))), (D.v (.int .u8 (112 : Int))), (D.v (.int .u8 (58 : Int))), (D.v (.int .u8 (47 : Int))), (D.v (.int .u8 (47 : Int))), (D.v (.int .u8 (97 : Int)))]), (D.list 0 (some 0) [])])]), (D.v (.int .i64 (1 : Int))), zI]
def Zly : D := (D.tup [zI, (D.v (.int .i64 (3 : Int)))])
def Zlz : List D := [(D.agg [(D.v (.int .u8 (0 : Int))), (D.v (.bool true)), (D.v (.int .u32 (16 : Int))), (D.list 0 (some 0) []), (D.list 2 (some 2) [(D.v (.int .u8 (0 : Int))), (D.v (.bool false)), (D.v (.int .u32 (6 : Int))), (D.list 8 none [(D.v (.int .u8 (43 : Int))), (D.v (.int .u8 (6 : Int))), (D.v (.int .u8 (1 : Int))), (D.v (.int .u8 (5 : Int))), (D.v (.int .u8 (5 : Int))), (D.v (.int .u8 (7 : Int))), (D.v (.int .u8 (2 : Int))), (D.v (.int .u8 (2 : Int)))]), (D.list 0 (some 0) []), (D.v (.int .u8 (0 : Int))), (D.v (.bool true)), (D.v (.int .u32 (16 : Int))), (D.list 0 (some 0) []), (D.list 1 none [(D.v (.int .u8 (0 : Int))), (D.v (.bool false)), (D.v (.int .u32 (12 : Int))), (D.list 1 none [(D.v (.int .u8 (98 : Int)))]), (D.list 0 (some 0) [])])])]), (D.v (.int .i64 (1 : Int))), zI]
def Zm0 : D := (D.tup [zI, (D.v (.int .i64 (4 : Int)))])
theorem Zrt : funD Tryz.prog Zec 100000 60 Z3d Tryz.f149 Zlx = some Zly := by kernel_rfl
theorem Zru : funD Tryz.prog Zec 100000 60 Z3d Tryz.f149 Zlz = some Zm0 := by kernel_rfl
def Zkb (ds : List D) : Option D := if isT Zlx ds then some Zly else (if isT Zlz ds then some Zm0 else (none))
theorem Zts : ∀ ds d, Zkb ds = some d → DataSem Tryz.prog 149 ds d := by
  intro ds d h
  unfold Zkb at h
  split at h
  · rename_i ha; obtain rfl := isT_eq ha; cases h; exact Zio Zrt
  split at h
  · rename_i ha; obtain rfl := isT_eq ha; cases h; exact Zio Zru
  cases h

def Z3e : FnH := ⟨[], []⟩
def Zhw : FnH := ⟨[], []⟩
theorem Z8h : Enters Tryz.prog 104 := ⟨Tryz.f104, Tryz.func104, by kernel_rfl, by kernel_rfl⟩
theorem Zhx : Enters Tryz.prog 132 := ⟨Tryz.f132, Tryz.func132, by kernel_rfl, by kernel_rfl⟩
noncomputable def Zed : Hints := ⟨[(129, Zl9), (130, Zij), (131, Zh8), (133, Znb), (149, Zkb)], [(104, Tryz.f104, Z3e), (132, Tryz.f132, Zhw)], [233, 235, 236, 238, 183]⟩
theorem Zip {m n : Nat} {ds : List D} {d : D} (h : funD Tryz.prog Zed m n Z3e Tryz.f104 ds = some d) : DataSem Tryz.prog 104 ds d := data_sound (H := Zed) (SpOk.cons Zul (SpOk.cons Zsq (SpOk.cons Zrs (SpOk.cons Zv7 (SpOk.cons Zts SpOk.nil))))) mixed (InlOk.cons Tryz.func104 Z8h (InlOk.cons Tryz.func132 Zhx InlOk.nil)) Tryz.func104 Z8h h
def Zm1 : List D := [(D.agg [(D.v (.int .u8 (1 : Int))), (D.v (.string (ByteArray.mk #[104, 116, 116, 112, 58, 47, 47, 97]))), (D.v (.bool false)), zU, (D.v (.string (ByteArray.mk #[]))), (D.list 0 (some 0) []), (D.v (.bool false)), zU, (D.v (.string (ByteArray.mk #[]))), (D.v (.int .u8 (0 : Int))), zU, zU, zU, zU, zU, zU, zU, zU, zU, zU, zU, zU, zU, zU, zU, zU, (D.list 0 (some 0) [])])]
def Zm2 : D := zI
def Zm3 : List D := [(D.agg [(D.v (.int .u8 (2 : Int))), (D.v (.string (ByteArray.mk #[]))), (D.v (.bool false)), zU, (D.v (.string (ByteArray.mk #[]))), (D.list 0 (some 0) []), (D.v (.bool true)), (D.v (.int .u32 (12 : Int))), (D.v (.string (ByteArray.mk #[98]))), (D.v (.int .u8 (0 : Int))), zU, zU, zU, zU, zU, zU, zU, zU, zU, zU, zU, zU, zU, zU, zU, zU, (D.list 0 (some 0) [])])]
def Zm4 : D := zI
theorem Zrv : funD Tryz.prog Zed 100000 60 Z3e Tryz.f104 Zm1 = some Zm2 := by kernel_rfl
theorem Zrw : funD Tryz.prog Zed 100000 60 Z3e Tryz.f104 Zm3 = some Zm4 := by kernel_rfl
def Zc5 (ds : List D) : Option D := if isT Zm1 ds then some Zm2 else (if isT Zm3 ds then some Zm4 else (none))
theorem Ztt : ∀ ds d, Zc5 ds = some d → DataSem Tryz.prog 104 ds d := by
  intro ds d h
  unfold Zc5 at h
  split at h
  · rename_i ha; obtain rfl := isT_eq ha; cases h; exact Zip Zrv
  split at h
  · rename_i ha; obtain rfl := isT_eq ha; cases h; exact Zip Zrw
  cases h

end Go.Ev
