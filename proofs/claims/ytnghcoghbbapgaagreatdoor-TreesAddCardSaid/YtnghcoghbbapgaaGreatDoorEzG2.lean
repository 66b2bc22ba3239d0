/- Functions of the given program in plain form,printed: each with the proof that it is what the evaluator comes to,and that the program function returns what it says. No conditions. -/
import Derived.Test.YtnghcoghbbapgaaGreatDoorEzG1
set_option linter.unusedVariables false
set_option maxRecDepth 100000
namespace Go.Ev
open Go Go.Proofs
def Zny : FnH := ⟨[],[]⟩
noncomputable def Z1cf : Hints := ⟨[],[],[]⟩
noncomputable def Z1ma (m : Nat)  : Option D :=
 some (D.agg [(D.v (.int .u8 (5 : Int))),(D.v (.int .u32 (2 : Int))),(D.v (.int .u32 (5 : Int))),(D.v (.int .u32 (29 : Int))),(D.v (.int .u32 (32 : Int))),zU,zU,zU,zU,zU,zU,zU,zU,zU,zU,zU,zU])
theorem Z1os (m : Nat)  : funD Tg Z1cf m 4 Zny Tryz.f38 [] = Z1ma m  := by kernel_rfl
theorem Z1up : Enters Tg 38 := ⟨Tryz.f38,Tryz.func38,by kernel_rfl,by kernel_rfl⟩
theorem Z1uq {ds : List D} {d : D} (h : funD Tg Z1cf M 4 Zny Tryz.f38 ds = some d) : DataSem Tg 38 ds d := Z5 (H := Z1cf) SpOk.nil mixed InlOk.nil Tryz.func38 Z1up h
noncomputable def Zz3 : List D → Option D
 | [] => Z1ma M 
 | _ => none
theorem Z1ur : ∀ ds d,Zz3 ds = some d → DataSem Tg 38 ds d := by
 intro ds d h
 unfold Zz3 at h
 split at h
 ·exact Z1uq ((Z1os M ).trans h)
 ·cases h
def Zcb : FnH := ⟨[],[]⟩
noncomputable def Z10g : Hints := ⟨[(38,Zz3)],[],[]⟩
noncomputable def Zrf (m : Nat) (a0 : Int) : Option D :=
 cond ((Int.tmod a0 (7 : Int)) == (6 : Int))
 ((Zz3 []).bind fun d1 =>
 (rdA (some d1)).bind fun c2 =>
 if (List.length c2) = 17 then
 some (D.agg c2)
 else none)
 (some (D.agg [(D.v (.int .u8 (3 : Int))),(D.v (.int .u32 (1 : Int))),(D.v (.int .u32 (2 : Int))),(D.v (.int .u32 (IntKind.wrap .u32 ((3 : Int) + (IntKind.wrap .u32 (Int.tmod a0 (7 : Int))))))),zU,zU,zU,zU,zU,zU,zU,zU,zU,zU,zU,zU,zU]))
theorem Z1gr (m : Nat) (a0 : Int) : funD Tg Z10g m 4 Zcb Tryz.f12 [(D.v (.int .u8 a0))] = Zrf m a0 := by kernel_rfl
theorem Z1mb : Enters Tg 12 := ⟨Tryz.f12,Tryz.func12,by kernel_rfl,by kernel_rfl⟩
theorem Z1mc {ds : List D} {d : D} (h : funD Tg Z10g M 4 Zcb Tryz.f12 ds = some d) : DataSem Tg 12 ds d := Z5 (H := Z10g) (SpOk.cons Z1ur SpOk.nil) mixed InlOk.nil Tryz.func12 Z1mb h
noncomputable def Z7w : List D → Option D
 | [.v (.int .u8 a0)] => Zrf M a0
 | _ => none
theorem Z17w : ∀ ds d,Z7w ds = some d → DataSem Tg 12 ds d := by
 intro ds d h
 unfold Z7w at h
 split at h
 ·exact Z1mc ((Z1gr M _).trans h)
 ·cases h
def Zfn : FnH := ⟨[],[]⟩
noncomputable def Z13r : Hints := ⟨[],[],[]⟩
noncomputable def Zve (m : Nat) (a0 : Int) : Option D :=
 cond ((Int.tmod a0 (4 : Int)) == (1 : Int))
 (some (D.list 1 (some 1) [(D.v (.int .u8 (1 : Int))),(D.v (.string (ByteArray.mk #[104,116,116,112,58,47,47,97]))),(D.v (.bool false)),zU,(D.v (.string (ByteArray.mk #[]))),(D.list 0 (some 0) []),(D.v (.bool false)),zU,(D.v (.string (ByteArray.mk #[]))),(D.v (.int .u8 (0 : Int))),zU,zU,zU,zU,zU,zU,zU,zU,zU,zU,zU,zU,zU,zU,zU,zU,(D.list 0 (some 0) [])]))
 (cond ((Int.tmod a0 (4 : Int)) == (2 : Int))
 (some (D.list 1 (some 1) [(D.v (.int .u8 (2 : Int))),(D.v (.string (ByteArray.mk #[]))),(D.v (.bool false)),zU,(D.v (.string (ByteArray.mk #[]))),(D.list 0 (some 0) []),(D.v (.bool true)),(D.v (.int .u32 (12 : Int))),(D.v (.string (ByteArray.mk #[98]))),(D.v (.int .u8 (0 : Int))),zU,zU,zU,zU,zU,zU,zU,zU,zU,zU,zU,zU,zU,zU,zU,zU,(D.list 0 (some 0) [])]))
 (cond ((Int.tmod a0 (4 : Int)) == (3 : Int))
 (some (D.list 2 (some 2) [(D.v (.int .u8 (2 : Int))),(D.v (.string (ByteArray.mk #[]))),(D.v (.bool false)),zU,(D.v (.string (ByteArray.mk #[]))),(D.list 0 (some 0) []),(D.v (.bool true)),(D.v (.int .u32 (12 : Int))),(D.v (.string (ByteArray.mk #[98]))),(D.v (.int .u8 (0 : Int))),zU,zU,zU,zU,zU,zU,zU,zU,zU,zU,zU,zU,zU,zU,zU,zU,(D.list 0 (some 0) []),(D.v (.int .u8 (1 : Int))),(D.v (.string (ByteArray.mk #[104,116,116,112,58,47,47,97]))),(D.v (.bool false)),zU,(D.v (.string (ByteArray.mk #[]))),(D.list 0 (some 0) []),(D.v (.bool false)),zU,(D.v (.string (ByteArray.mk #[]))),(D.v (.int .u8 (0 : Int))),zU,zU,zU,zU,zU,zU,zU,zU,zU,zU,zU,zU,zU,zU,zU,zU,(D.list 0 (some 0) [])]))
 (some (D.list 0 (some 0) []))))
theorem Z1jg (m : Nat) (a0 : Int) : funD Tg Z13r m 4 Zfn Tryz.f46 [(D.v (.int .u8 a0))] = Zve m a0 := by kernel_rfl
theorem Z1ot : Enters Tg 46 := ⟨Tryz.f46,Tryz.func46,by kernel_rfl,by kernel_rfl⟩
theorem Z1ou {ds : List D} {d : D} (h : funD Tg Z13r M 4 Zfn Tryz.f46 ds = some d) : DataSem Tg 46 ds d := Z5 (H := Z13r) SpOk.nil mixed InlOk.nil Tryz.func46 Z1ot h
noncomputable def Zj4 : List D → Option D
 | [.v (.int .u8 a0)] => Zve M a0
 | _ => none
theorem Z1ov : ∀ ds d,Zj4 ds = some d → DataSem Tg 46 ds d := by
 intro ds d h
 unfold Zj4 at h
 split at h
 ·exact Z1ou ((Z1jg M _).trans h)
 ·cases h
def Z1x : FnH := ⟨[(4,⟨(bm 233 49),[(5,17)],(some 2)⟩)],[(8,⟨(bm 233 49),[],(some 2)⟩),(11,⟨(bm 233 49),[],(some 3)⟩)]⟩
noncomputable def Z3e : Hints := ⟨[(56,Z50)],[],[]⟩
noncomputable def Znz (m n0 : Nat) (Zq : Nat) (Zv : Option Nat) (Zz : List D) (Zy : Nat) (Z11 : Int) (Z13 : Int) (Z1d : List D) (Z1q : Nat) (Z4t : List D) : Option D :=
 Z1k (bm 233 49) 0 2 (codeK Tg Z3e.sp ⟨0,[],false,[]⟩ (inlK Tg Z3e m 4) m Z1x (subc [1,1,1,0,1,0,0] (bodyOf Tryz.f75))) n0 ⟨[(AV.d (D.list Zq Zv Zz)),Jk,Jk,(AV.ptr 0 0),Jk,(AV.sl 1 0 Zy none 17),(AV.d (D.v (.int .i64 Z11))),(AV.d (D.v (.int .i64 Z13))),Jk,Jk,Jk,Jk,Jk,Jk,Jk,Jk,Jk,Jk,Jk,Jk,Jk,Jk,Jk,Jk,Jk,Jk,Jk,Jk,Jk,Jk,Jk,Jk,Jk,Jk,Jk,Jk,Jk,Jk,Jk,Jk,Jk,Jk,Jk,Jk,Jk,Jk,Jk,Jk,Jk],[(Blk.d 17 Z1d),(Blk.d Z1q Z4t)]⟩
  (contK Tg Z3e.sp ⟨0,[],false,[]⟩ (inlK Tg Z3e m 4) m Z1x (endK Tg Tryz.f75 endV) [.block 0,.code (subc [1,1,1,1] (bodyOf Tryz.f75))])
noncomputable def Zrg (m n0 : Nat) (Z2z : Nat) (Z4j : Option Nat) (Z3v : List D) (Z3t : Nat) (Z6p : Int) (Za0 : Int) (Z91 : List D) (Zph : Nat) (Zx1 : List D) : Option D :=
 cutK m (codeK Tg Z3e.sp ⟨0,[],false,[]⟩ (inlK Tg Z3e m 4) m Z1x (subc [1,1,1,0,1,0,0,1,0,0,1] (bodyOf Tryz.f75)) ⟨[(AV.d (D.list Z2z Z4j Z3v)),Jk,Jk,(AV.ptr 0 0),Jk,(AV.sl 1 0 Z3t none 17),(AV.d (D.v (.int .i64 Z6p))),(AV.d (D.v (.int .i64 Za0))),Jk,Jk,Jk,Jk,Jk,Jk,Jk,Jk,Jk,Jk,Jk,Jk,Jk,Jk,Jk,Jk,Jk,Jk,Jk,Jk,Jk,Jk,Jk,Jk,Jk,Jk,Jk,Jk,Jk,Jk,Jk,Jk,Jk,Jk,Jk,Jk,Jk,Jk,Jk,Jk,Jk],[(Blk.d 17 Z91),(Blk.d Zph Zx1)]⟩
  (contK Tg Z3e.sp ⟨0,[],false,[]⟩ (inlK Tg Z3e m 4) m Z1x (endK Tg Tryz.f75 endV) [.block 1,.code (subc [1,1,1,0,1,0,0,1,1] (bodyOf Tryz.f75)),.loop (bm 233 49) 2 (subc [1,1,1,0,1,0,0] (bodyOf Tryz.f75)) n0,.block 0,.code (subc [1,1,1,1] (bodyOf Tryz.f75))]))
noncomputable def Z17x (m n0 : Nat) (Zd7 : Nat) (Zis : Option Nat) (Zit : List D) (Zgz : Nat) (Zo0 : Int) (Zme : Int) (Zz4 : List D) (Z11x : Nat) (Z16k : List D) (Z1cg : List D) : Option D :=
 cutK m (codeK Tg Z3e.sp ⟨0,[],false,[]⟩ (inlK Tg Z3e m 4) m Z1x (subc [1,1,1,0,1,0,0,1,0,0,1,1] (bodyOf Tryz.f75)) ⟨[(AV.d (D.list Zd7 Zis Zit)),Jk,Jk,(AV.ptr 0 0),Jk,(AV.sl 1 0 Zgz none 17),(AV.d (D.v (.int .i64 Zo0))),(AV.d (D.v (.int .i64 Zme))),Jk,Jk,Jk,Jk,Jk,Jk,Jk,Jk,Jk,Jk,Jk,Jk,Jk,Jk,Jk,Jk,Jk,Jk,Jk,Jk,Jk,Jk,Jk,Jk,Jk,Jk,Jk,Jk,Jk,Jk,Jk,Jk,Jk,Jk,Jk,Jk,Jk,Jk,Jk,Jk,Jk],[(Blk.d 17 Zz4),(Blk.d Z11x Z16k),(Blk.d 17 Z1cg)]⟩
  (contK Tg Z3e.sp ⟨0,[],false,[]⟩ (inlK Tg Z3e m 4) m Z1x (endK Tg Tryz.f75 endV) [.block 1,.code (subc [1,1,1,0,1,0,0,1,1] (bodyOf Tryz.f75)),.loop (bm 233 49) 2 (subc [1,1,1,0,1,0,0] (bodyOf Tryz.f75)) n0,.block 0,.code (subc [1,1,1,1] (bodyOf Tryz.f75))]))
theorem Z1gs (m n0 : Nat) (Zd7 : Nat) (Zis : Option Nat) (Zit : List D) (Zgz : Nat) (Zo0 : Int) (Zme : Int) (Zz4 : List D) (Z11x : Nat) (Z16k : List D) (Z1cg : List D) : Z17x m n0 Zd7 Zis Zit Zgz Zo0 Zme Zz4 Z11x Z16k Z1cg =
 (if 0 ≤ Zme ∧ Zme < (Zd7 : Int) then
 if (((Int.toNat Zme) * 17) + 17) ≤ (List.length Zit) then
 if (List.length ((List.drop ((Int.toNat Zme) * 17) Zit).take 17)) = 17 then
 if ownB ⟨0,[],false,[]⟩ 1 = true ∧ Z11x = (Zgz * 17) ∧ Z2v (Zgz + 1) 68 ∧ (List.length ((List.drop ((Int.toNat Zme) * 17) Zit).take 17)) = 17 then
 Znz m n0 Zd7 Zis Zit (Zgz + 1) Zo0 (IntKind.wrap .i64 (Zme + (1 : Int))) Zz4 ((Zgz + 1) * 17) (Z16k ++ ((List.drop ((Int.toNat Zme) * 17) Zit).take 17))
 else none
 else none
 else none
 else none) := (Z1w m _).trans (by kernel_rfl)
noncomputable def Zh0 (m n0 : Nat) (Z10h : Nat) (Z15c : Option Nat) (Zx2 : List D) (Z13s : Nat) (Z13t : Int) (Z16d : Int) (Z117 : List D) (Z1bg : Nat) (Z1ch : List D) : Option D :=
 cutK m (codeK Tg Z3e.sp ⟨0,[],false,[]⟩ (inlK Tg Z3e m 4) m Z1x (subc [1,1,1,0,1,0,0,1,0,0,1,1] (bodyOf Tryz.f75)) ⟨[(AV.d (D.list Z10h Z15c Zx2)),Jk,Jk,(AV.ptr 0 0),Jk,(AV.sl 1 0 Z13s none 17),(AV.d (D.v (.int .i64 Z13t))),(AV.d (D.v (.int .i64 Z16d))),Jk,Jk,Jk,Jk,Jk,Jk,Jk,Jk,Jk,Jk,Jk,Jk,Jk,Jk,Jk,Jk,Jk,Jk,Jk,Jk,Jk,Jk,Jk,Jk,Jk,Jk,Jk,Jk,Jk,Jk,Jk,Jk,Jk,Jk,Jk,Jk,Jk,Jk,Jk,Jk,Jk],[(Blk.d 17 Z117),(Blk.d Z1bg Z1ch)]⟩
  (contK Tg Z3e.sp ⟨0,[],false,[]⟩ (inlK Tg Z3e m 4) m Z1x (endK Tg Tryz.f75 endV) [.block 1,.code (subc [1,1,1,0,1,0,0,1,1] (bodyOf Tryz.f75)),.loop (bm 233 49) 2 (subc [1,1,1,0,1,0,0] (bodyOf Tryz.f75)) n0,.block 0,.code (subc [1,1,1,1] (bodyOf Tryz.f75))]))
theorem Zx3 (m n0 : Nat) (Z10h : Nat) (Z15c : Option Nat) (Zx2 : List D) (Z13s : Nat) (Z13t : Int) (Z16d : Int) (Z117 : List D) (Z1bg : Nat) (Z1ch : List D) : Zh0 m n0 Z10h Z15c Zx2 Z13s Z13t Z16d Z117 Z1bg Z1ch =
 (if 0 ≤ Z16d ∧ Z16d < (Z10h : Int) then
 if (((Int.toNat Z16d) * 17) + 17) ≤ (List.length Zx2) then
 if (List.length ((List.drop ((Int.toNat Z16d) * 17) Zx2).take 17)) = 17 then
 if ownB ⟨0,[],false,[]⟩ 1 = true ∧ Z1bg = (Z13s * 17) ∧ Z2v (Z13s + 1) 68 ∧ (List.length ((List.drop ((Int.toNat Z16d) * 17) Zx2).take 17)) = 17 then
 Znz m n0 Z10h Z15c Zx2 (Z13s + 1) Z13t (IntKind.wrap .i64 (Z16d + (1 : Int))) Z117 ((Z13s + 1) * 17) (Z1ch ++ ((List.drop ((Int.toNat Z16d) * 17) Zx2).take 17))
 else none
 else none
 else none
 else none) := (Z1w m _).trans (by kernel_rfl)
theorem Z1jh (m n0 : Nat) (Z2z : Nat) (Z4j : Option Nat) (Z3v : List D) (Z3t : Nat) (Z6p : Int) (Za0 : Int) (Z91 : List D) (Zph : Nat) (Zx1 : List D) : Zrg m n0 Z2z Z4j Z3v Z3t Z6p Za0 Z91 Zph Zx1 =
 (cond (Z6p == (0 : Int))
 (if 0 ≤ Za0 ∧ Za0 < (Z2z : Int) then
 if (((Int.toNat Za0) * 17) + 17) ≤ (List.length Z3v) then
 (Z50 [(D.agg Z91),(D.agg ((List.drop ((Int.toNat Za0) * 17) Z3v).take 17))]).bind fun d8 =>
 (rdI .i64 (some d8)).bind fun x9 =>
 cond (decide (x9 < (0 : Int)))
 (if (List.length Z91) = 17 then
 if ownB ⟨0,[],false,[]⟩ 1 = true ∧ Zph = (Z3t * 17) ∧ Z2v (Z3t + 1) 68 ∧ (List.length Z91) = 17 then
 Z17x m n0 Z2z Z4j Z3v (Z3t + 1) (1 : Int) Za0 Z91 ((Z3t + 1) * 17) (Zx1 ++ Z91) Z91
 else none
 else none)
 (Zh0 m n0 Z2z Z4j Z3v Z3t Z6p Za0 Z91 Zph Zx1)
 else none
 else none)
 (Zh0 m n0 Z2z Z4j Z3v Z3t Z6p Za0 Z91 Zph Zx1)) := (Z1w m _).trans (by kernel_rfl)
theorem Z1md (m n0 : Nat) (Zq : Nat) (Zv : Option Nat) (Zz : List D) (Zy : Nat) (Z11 : Int) (Z13 : Int) (Z1d : List D) (Z1q : Nat) (Z4t : List D) : Znz m (n0 + 1) Zq Zv Zz Zy Z11 Z13 Z1d Z1q Z4t =
 (cond (decide (Z13 < (Zq : Int)))
 (if 0 ≤ Z13 ∧ Z13 < (Zq : Int) then
 if (((Int.toNat Z13) * 17) + 17) ≤ (List.length Zz) then
 (cellsEq [.int,.int,.int,.int,.int,.int,.int,.int,.int,.int,.int,.int,.int,.int,.int,.int,.int] ((List.drop ((Int.toNat Z13) * 17) Zz).take 17) Z1d).bind fun b7 =>
 cond b7
 (Zrg m n0 Zq Zv Zz Zy (1 : Int) Z13 Z1d Z1q Z4t)
 (Zrg m n0 Zq Zv Zz Zy Z11 Z13 Z1d Z1q Z4t)
 else none
 else none)
 (cond (Z11 == (0 : Int))
 (if (List.length Z1d) = 17 then
 if ownB ⟨0,[],false,[]⟩ 1 = true ∧ Z1q = (Zy * 17) ∧ Z2v (Zy + 1) 68 ∧ (List.length Z1d) = 17 then
 if (0 + ((Zy + 1) * 17)) ≤ ((Zy + 1) * 17) then
 some (D.list (Zy + 1) none (cutL ((Zy + 1) * 17) (Z4t ++ Z1d) 0 ((Zy + 1) * 17)))
 else none
 else none
 else none)
 (if (0 + (Zy * 17)) ≤ Z1q then
 some (D.list Zy none (cutL Z1q Z4t 0 (Zy * 17)))
 else none))) := by kernel_rfl
noncomputable def Z13u (m : Nat) (a0n : Nat) (a0c : Option Nat) (a0 : List D) (a1 : List D) : Option D :=
 if (List.length a1) = 17 then
 Znz m m a0n a0c a0 0 (0 : Int) (0 : Int) a1 0 []
 else none
theorem Z1ow (m : Nat) (a0n : Nat) (a0c : Option Nat) (a0 : List D) (a1 : List D) : funD Tg Z3e m 4 Z1x Tryz.f75 [(D.list a0n a0c a0),(D.agg a1)] = Z13u m a0n a0c a0 a1 := by kernel_rfl
theorem Z1us : Enters Tg 75 := ⟨Tryz.f75,Tryz.func75,by kernel_rfl,by kernel_rfl⟩
theorem Z1ut {ds : List D} {d : D} (h : funD Tg Z3e M 4 Z1x Tryz.f75 ds = some d) : DataSem Tg 75 ds d := Z5 (H := Z3e) (SpOk.cons Ztu SpOk.nil) mixed InlOk.nil Tryz.func75 Z1us h
noncomputable def Zsx : List D → Option D
 | [.list a0n a0c a0,.agg a1] => Z13u M a0n a0c a0 a1
 | _ => none
theorem Z1uu : ∀ ds d,Zsx ds = some d → DataSem Tg 75 ds d := by
 intro ds d h
 unfold Zsx at h
 split at h
 ·exact Z1ut ((Z1ow M _ _ _ _).trans h)
 ·cases h
def Z4c : FnH := ⟨[(3,⟨(bm 25 20),[],(some 0)⟩)],[(4,⟨(bm 25 20),[],(some 0)⟩)]⟩
noncomputable def Z7x : Hints := ⟨[(12,Z7w),(75,Zsx)],[],[]⟩
noncomputable def Zvf (m n0 : Nat) (Zq : Int) (Zv : Nat) (Zz : Option Nat) (Zy : List D) (Z11 : Int) : Option D :=
 Z1k (bm 25 20) 0 0 (codeK Tg Z7x.sp ⟨0,[],false,[]⟩ (inlK Tg Z7x m 4) m Z4c (subc [1,1,0,1,0,0] (bodyOf Tryz.f45))) n0 ⟨[(AV.d (D.v (.int .u8 Zq))),Jk,Jk,(AV.d (D.list Zv Zz Zy)),(AV.d (D.v (.int .i64 Z11))),Jk,Jk,Jk,Jk,Jk,Jk,Jk,Jk,Jk,Jk,Jk,Jk,Jk,Jk,Jk],[]⟩
  (contK Tg Z7x.sp ⟨0,[],false,[]⟩ (inlK Tg Z7x m 4) m Z4c (endK Tg Tryz.f45 endV) [.block 0,.code (subc [1,1,1] (bodyOf Tryz.f45))])
noncomputable def Zrh (m n0 : Nat) (Z2z : Int) (Z4j : Nat) (Z3v : Option Nat) (Z3t : List D) (Z6p : Int) : Option D :=
 cutK m (codeK Tg Z7x.sp ⟨0,[],false,[]⟩ (inlK Tg Z7x m 4) m Z4c (subc [1,1,0,1,0,0,1,1] (bodyOf Tryz.f45)) ⟨[(AV.d (D.v (.int .u8 Z2z))),Jk,Jk,(AV.d (D.list Z4j Z3v Z3t)),(AV.d (D.v (.int .i64 Z6p))),Jk,Jk,Jk,Jk,Jk,Jk,Jk,Jk,Jk,Jk,Jk,Jk,Jk,Jk,Jk],[]⟩
  (contK Tg Z7x.sp ⟨0,[],false,[]⟩ (inlK Tg Z7x m 4) m Z4c (endK Tg Tryz.f45 endV) [.loop (bm 25 20) 0 (subc [1,1,0,1,0,0] (bodyOf Tryz.f45)) n0,.block 0,.code (subc [1,1,1] (bodyOf Tryz.f45))]))
theorem Z1ji (m n0 : Nat) (Z2z : Int) (Z4j : Nat) (Z3v : Option Nat) (Z3t : List D) (Z6p : Int) : Zrh m n0 Z2z Z4j Z3v Z3t Z6p =
 (Zvf m n0 Z2z Z4j Z3v Z3t (IntKind.wrap .i64 (Z6p + (1 : Int)))) := (Z1w m _).trans (by kernel_rfl)
theorem Z1me (m n0 : Nat) (Zq : Int) (Zv : Nat) (Zz : Option Nat) (Zy : List D) (Z11 : Int) : Zvf m (n0 + 1) Zq Zv Zz Zy Z11 =
 (cond (decide (Z11 < (7 : Int)))
 (if Z11 < 0 then none else
 cond ((Int.tmod (Int.fdiv Zq (2 ^ (min (Int.toNat Z11) (IntKind.bits .u8)))) (2 : Int)) == (1 : Int))
 ((Z7w [(D.v (.int .u8 (IntKind.wrap .u8 Z11)))]).bind fun d9 =>
 (rdA (some d9)).bind fun c10 =>
 (Zsx [(D.list Zv Zz Zy),(D.agg c10)]).bind fun d11 =>
 (rdL (some d11)).bind fun q12 =>
 Zrh m n0 Zq q12.n q12.cap q12.cs Z11)
 (Zrh m n0 Zq Zv Zz Zy Z11))
 (some (D.list Zv Zz Zy))) := by kernel_rfl
noncomputable def Z13v (m : Nat) (a0 : Int) : Option D :=
 Zvf m m a0 0 (some 0) [] (0 : Int)
theorem Z1ox (m : Nat) (a0 : Int) : funD Tg Z7x m 4 Z4c Tryz.f45 [(D.v (.int .u8 a0))] = Z13v m a0 := by kernel_rfl
theorem Z1uv : Enters Tg 45 := ⟨Tryz.f45,Tryz.func45,by kernel_rfl,by kernel_rfl⟩
theorem Z1uw {ds : List D} {d : D} (h : funD Tg Z7x M 4 Z4c Tryz.f45 ds = some d) : DataSem Tg 45 ds d := Z5 (H := Z7x) (SpOk.cons Z17w (SpOk.cons Z1uu SpOk.nil)) mixed InlOk.nil Tryz.func45 Z1uv h
noncomputable def Zsy : List D → Option D
 | [.v (.int .u8 a0)] => Z13v M a0
 | _ => none
theorem Z1ux : ∀ ds d,Zsy ds = some d → DataSem Tg 45 ds d := by
 intro ds d h
 unfold Zsy at h
 split at h
 ·exact Z1uw ((Z1ox M _).trans h)
 ·cases h
def Z33 : FnH := ⟨[(2,⟨(bm 38 34),[],(some 1)⟩)],[(5,⟨(bm 38 34),[],(some 1)⟩)]⟩
noncomputable def Z5g : Hints := ⟨[],[],[]⟩
noncomputable def Zo1 (m n0 : Nat) (Zq : Int) (Zv : Int) (Zz : Nat) (Zy : Option Nat) (Z11 : List D) : Option D :=
 Z1k (bm 38 34) 0 1 (codeK Tg Z5g.sp ⟨0,[],false,[]⟩ (inlK Tg Z5g m 4) m Z33 (subc [1,1,0,0,0] (bodyOf Tryz.f15))) n0 ⟨[Jk,(AV.d (D.v (.int .i64 Zq))),(AV.ptr 0 0),Jk,Jk,(AV.d (D.v (.int .i64 Zv))),Jk,Jk,Jk,Jk,Jk,Jk,Jk,Jk,Jk,Jk,Jk,Jk,Jk,Jk,Jk,Jk,Jk,Jk,Jk,Jk,Jk,Jk,Jk,Jk,Jk,Jk,Jk,Jk],[(Blk.d 1 [(D.list Zz Zy Z11)])]⟩
  (contK Tg Z5g.sp ⟨0,[],false,[]⟩ (inlK Tg Z5g m 4) m Z33 (endK Tg Tryz.f15 endV) [.block 0,.code (subc [1,1,1] (bodyOf Tryz.f15))])
noncomputable def Z15d (m n0 : Nat) (Z2z : Int) (Z4j : Int) (Z3v : Nat) (Z3t : Option Nat) (Z6p : List D) : Option D :=
 cutK m (codeK Tg Z5g.sp ⟨0,[],false,[]⟩ (inlK Tg Z5g m 4) m Z33 (subc [1,1,0,0,0,1,0,1] (bodyOf Tryz.f15)) ⟨[Jk,(AV.d (D.v (.int .i64 Z2z))),(AV.ptr 0 0),Jk,Jk,(AV.d (D.v (.int .i64 Z4j))),Jk,Jk,Jk,Jk,Jk,Jk,Jk,Jk,Jk,Jk,Jk,Jk,Jk,Jk,Jk,Jk,Jk,Jk,Jk,Jk,Jk,Jk,Jk,Jk,Jk,Jk,Jk,Jk],[(Blk.d 1 [(D.list Z3v Z3t Z6p)])]⟩
  (contK Tg Z5g.sp ⟨0,[],false,[]⟩ (inlK Tg Z5g m 4) m Z33 (endK Tg Tryz.f15 endV) [.block 1,.loop (bm 38 34) 1 (subc [1,1,0,0,0] (bodyOf Tryz.f15)) n0,.block 0,.code (subc [1,1,1] (bodyOf Tryz.f15))]))
theorem Z1er (m n0 : Nat) (Z2z : Int) (Z4j : Int) (Z3v : Nat) (Z3t : Option Nat) (Z6p : List D) : Z15d m n0 Z2z Z4j Z3v Z3t Z6p =
 (if 0 ≤ Z2z ∧ Z2z < (Z3v : Int) then
 (rdI .i64 Z6p[(((Int.toNat Z2z) * 20) + 0)]?).bind fun x9 =>
 Zo1 m n0 x9 (IntKind.wrap .i64 (Z4j + (1 : Int))) Z3v Z3t Z6p
 else none) := (Z1w m _).trans (by kernel_rfl)
theorem Z1gt (m n0 : Nat) (Zq : Int) (Zv : Int) (Zz : Nat) (Zy : Option Nat) (Z11 : List D) : Zo1 m (n0 + 1) Zq Zv Zz Zy Z11 =
 (cond (decide (Zq > (0 : Int)))
 (if 0 ≤ Zq ∧ Zq < (Zz : Int) then
 (rdI .i64 Z11[(((Int.toNat Zq) * 20) + 0)]?).bind fun x7 =>
 cond (decide (x7 ≥ Zq))
 (some (D.v (.int .i64 (100000 : Int))))
 (if 0 ≤ Zq ∧ Zq < (Zz : Int) then
 (rdI .i64 Z11[(((Int.toNat Zq) * 20) + 0)]?).bind fun x8 =>
 cond (decide (x8 < (0 : Int)))
 (some (D.v (.int .i64 (100000 : Int))))
 (Z15d m n0 Zq Zv Zz Zy Z11)
 else none)
 else none)
 (some (D.v (.int .i64 Zv)))) := by kernel_rfl
noncomputable def Zvg (m : Nat) (a0_0n : Nat) (a0_0c : Option Nat) (a0_0 : List D) (a1 : Int) : Option D :=
 Zo1 m m a1 (0 : Int) a0_0n a0_0c a0_0
theorem Z1jj (m : Nat) (a0_0n : Nat) (a0_0c : Option Nat) (a0_0 : List D) (a1 : Int) : funD Tg Z5g m 4 Z33 Tryz.f15 [(D.agg [(D.list a0_0n a0_0c a0_0)]),(D.v (.int .i64 a1))] = Zvg m a0_0n a0_0c a0_0 a1 := by kernel_rfl
theorem Z1oy : Enters Tg 15 := ⟨Tryz.f15,Tryz.func15,by kernel_rfl,by kernel_rfl⟩
theorem Z1oz {ds : List D} {d : D} (h : funD Tg Z5g M 4 Z33 Tryz.f15 ds = some d) : DataSem Tg 15 ds d := Z5 (H := Z5g) SpOk.nil mixed InlOk.nil Tryz.func15 Z1oy h
noncomputable def Z2n : List D → Option D
 | [.agg [.list a0_0n a0_0c a0_0],.v (.int .i64 a1)] => Zvg M a0_0n a0_0c a0_0 a1
 | _ => none
theorem Z1bh : ∀ ds d,Z2n ds = some d → DataSem Tg 15 ds d := by
 intro ds d h
 unfold Z2n at h
 split at h
 ·exact Z1oz ((Z1jj M _ _ _ _).trans h)
 ·cases h
def Z6a : FnH := ⟨[(10,⟨(bm 34 39),[],(some 1)⟩)],[]⟩
noncomputable def Zfo : Hints := ⟨[(31,Z46),(60,Z90),(84,Zj2)],[],[]⟩
noncomputable def Zo2 (m n0 : Nat) (Zq : Int) (Zv : List D) : Option D :=
 Z1k (bm 34 39) 0 1 (codeK Tg Zfo.sp ⟨0,[],false,[]⟩ (inlK Tg Zfo m 4) m Z6a (subc [1,1,1,1,0,1,0,0] (bodyOf Tryz.f55))) n0 ⟨[Jk,(AV.ptr 0 0),Jk,Jk,Jk,(AV.d (D.v (.int .i64 Zq))),Jk,Jk,Jk,Jk,Jk,Jk,Jk,Jk,Jk,Jk,Jk,Jk,Jk,Jk,Jk,Jk,Jk,Jk,Jk,Jk,Jk,Jk,Jk,Jk,Jk,Jk,Jk,Jk,Jk,Jk,Jk,Jk,Jk],[(Blk.d 20 Zv)]⟩
  (contK Tg Zfo.sp ⟨0,[],false,[]⟩ (inlK Tg Zfo m 4) m Z6a (endK Tg Tryz.f55 endV) [.block 0,.code (subc [1,1,1,1,1] (bodyOf Tryz.f55))])
theorem Z1gu (m n0 : Nat) (Zq : Int) (Zv : List D) : Zo2 m (n0 + 1) Zq Zv =
 ((rdL Zv[19]?).bind fun q15 =>
 cond (decide (Zq < (q15.n : Int)))
 ((rdL Zv[19]?).bind fun q16 =>
 if 0 ≤ Zq ∧ Zq < (q16.n : Int) then
 if (((Int.toNat Zq) * 27) + 27) ≤ (List.length q16.cs) then
 (Zj2 [(D.agg ((List.drop ((Int.toNat Zq) * 27) q16.cs).take 27))]).bind fun d17 =>
 (rdI .i64 (some d17)).bind fun x18 =>
 cond (x18 != (0 : Int))
 (some (D.v (.int .i64 x18)))
 (Zo2 m n0 (IntKind.wrap .i64 (Zq + (1 : Int))) Zv)
 else none
 else none)
 (some zI)) := by kernel_rfl
noncomputable def Zz5 (m : Nat) (a0 : List D) : Option D :=
 if (List.length a0) = 20 then
 (Z90 [(D.agg ((List.drop 1 a0).take 17))]).bind fun d1 =>
 (rdI .i64 (some d1)).bind fun x2 =>
 cond (x2 != (0 : Int))
 (some (D.v (.int .i64 x2)))
 ((rdL a0[18]?).bind fun q3 =>
 (Z46 [(D.list q3.n q3.cap q3.cs)]).bind fun d4 =>
 (rdI .i64 (some d4)).bind fun x5 =>
 cond (x5 != (0 : Int))
 (some (D.v (.int .i64 x5)))
 ((rdL a0[19]?).bind fun q6 =>
 cond (decide ((q6.n : Int) > (8 : Int)))
 (some (D.v (.int .i64 (3 : Int))))
 (Zo2 m m (0 : Int) a0)))
 else none
theorem Z1mf (m : Nat) (a0 : List D) : funD Tg Zfo m 4 Z6a Tryz.f55 [(D.agg a0)] = Zz5 m a0 := by kernel_rfl
theorem Z1s4 : Enters Tg 55 := ⟨Tryz.f55,Tryz.func55,by kernel_rfl,by kernel_rfl⟩
theorem Z1s5 {ds : List D} {d : D} (h : funD Tg Zfo M 4 Z6a Tryz.f55 ds = some d) : DataSem Tg 55 ds d := Z5 (H := Zfo) (SpOk.cons Z1bd (SpOk.cons Z1bc (SpOk.cons Z1on SpOk.nil))) mixed InlOk.nil Tryz.func55 Z1s4 h
noncomputable def Zo3 : List D → Option D
 | [.agg a0] => Zz5 M a0
 | _ => none
theorem Z1s6 : ∀ ds d,Zo3 ds = some d → DataSem Tg 55 ds d := by
 intro ds d h
 unfold Zo3 at h
 split at h
 ·exact Z1s5 ((Z1mf M _).trans h)
 ·cases h
def Z34 : FnH := ⟨[(2,⟨(bm 170 34),[],(some 2)⟩)],[(3,⟨(bm 170 34),[],(some 2)⟩)]⟩
noncomputable def Z5h : Hints := ⟨[],[],[]⟩
noncomputable def Zo4 (m n0 : Nat) (Zq : Int) (Zv : Int) (Zz : Nat) (Zy : Option Nat) (Z11 : List D) (Z13 : List D) : Option D :=
 Z1k (bm 170 34) 0 2 (codeK Tg Z5h.sp ⟨0,[],false,[]⟩ (inlK Tg Z5h m 4) m Z34 (subc [1,0,1,0,0] (bodyOf Tryz.f54))) n0 ⟨[Jk,(AV.d (D.v (.int .i64 Zq))),Jk,(AV.ptr 0 0),Jk,(AV.ptr 1 0),Jk,(AV.d (D.v (.int .i64 Zv))),Jk,Jk,Jk,Jk,Jk,Jk,Jk,Jk,Jk,Jk,Jk,Jk,Jk,Jk,Jk,Jk,Jk,Jk,Jk,Jk,Jk,Jk,Jk,Jk,Jk,Jk],[(Blk.d 1 [(D.list Zz Zy Z11)]),(Blk.d 17 Z13)]⟩
  (contK Tg Z5h.sp ⟨0,[],false,[]⟩ (inlK Tg Z5h m 4) m Z34 (endK Tg Tryz.f54 endV) [.block 0,.code (subc [1,1] (bodyOf Tryz.f54))])
noncomputable def Ztx (m n0 : Nat) (Z2z : Int) (Z4j : Int) (Z3v : Nat) (Z3t : Option Nat) (Z6p : List D) (Za0 : List D) : Option D :=
 cutK m (codeK Tg Z5h.sp ⟨0,[],false,[]⟩ (inlK Tg Z5h m 4) m Z34 (subc [1,0,1,0,0,1,1] (bodyOf Tryz.f54)) ⟨[Jk,(AV.d (D.v (.int .i64 Z2z))),Jk,(AV.ptr 0 0),Jk,(AV.ptr 1 0),Jk,(AV.d (D.v (.int .i64 Z4j))),Jk,Jk,Jk,Jk,Jk,Jk,Jk,Jk,Jk,Jk,Jk,Jk,Jk,Jk,Jk,Jk,Jk,Jk,Jk,Jk,Jk,Jk,Jk,Jk,Jk,Jk],[(Blk.d 1 [(D.list Z3v Z3t Z6p)]),(Blk.d 17 Za0)]⟩
  (contK Tg Z5h.sp ⟨0,[],false,[]⟩ (inlK Tg Z5h m 4) m Z34 (endK Tg Tryz.f54 endV) [.loop (bm 170 34) 2 (subc [1,0,1,0,0] (bodyOf Tryz.f54)) n0,.block 0,.code (subc [1,1] (bodyOf Tryz.f54))]))
theorem Zz6 (m n0 : Nat) (Z2z : Int) (Z4j : Int) (Z3v : Nat) (Z3t : Option Nat) (Z6p : List D) (Za0 : List D) : Ztx m n0 Z2z Z4j Z3v Z3t Z6p Za0 =
 (Zo4 m n0 Z2z (IntKind.wrap .i64 (Z4j + (1 : Int))) Z3v Z3t Z6p Za0) := (Z1w m _).trans (by kernel_rfl)
theorem Z1gy (m n0 : Nat) (Zq : Int) (Zv : Int) (Zz : Nat) (Zy : Option Nat) (Z11 : List D) (Z13 : List D) : Zo4 m (n0 + 1) Zq Zv Zz Zy Z11 Z13 =
 (cond (decide (Zv < (Zz : Int)))
 (if 0 ≤ Zv ∧ Zv < (Zz : Int) then
 (rdI .i64 Z11[(((Int.toNat Zv) * 20) + 0)]?).bind fun x5 =>
 cond (x5 == Zq)
 (if 0 ≤ Zv ∧ Zv < (Zz : Int) then
 if ((((Int.toNat Zv) * 20) + 1) + 17) ≤ (List.length Z11) then
 (cellsEq [.int,.int,.int,.int,.int,.int,.int,.int,.int,.int,.int,.int,.int,.int,.int,.int,.int] ((List.drop (((Int.toNat Zv) * 20) + 1) Z11).take 17) Z13).bind fun b6 =>
 cond b6
 (some (D.v (.int .i64 Zv)))
 (Ztx m n0 Zq Zv Zz Zy Z11 Z13)
 else none
 else none)
 (Ztx m n0 Zq Zv Zz Zy Z11 Z13)
 else none)
 (some (D.v (.int .i64 (-1 : Int))))) := by kernel_rfl
noncomputable def Zvh (m : Nat) (a0_0n : Nat) (a0_0c : Option Nat) (a0_0 : List D) (a1 : Int) (a2 : List D) : Option D :=
 if (List.length a2) = 17 then
 Zo4 m m a1 (0 : Int) a0_0n a0_0c a0_0 a2
 else none
theorem Z1jk (m : Nat) (a0_0n : Nat) (a0_0c : Option Nat) (a0_0 : List D) (a1 : Int) (a2 : List D) : funD Tg Z5h m 4 Z34 Tryz.f54 [(D.agg [(D.list a0_0n a0_0c a0_0)]),(D.v (.int .i64 a1)),(D.agg a2)] = Zvh m a0_0n a0_0c a0_0 a1 a2 := by kernel_rfl
theorem Z1p0 : Enters Tg 54 := ⟨Tryz.f54,Tryz.func54,by kernel_rfl,by kernel_rfl⟩
theorem Z1p1 {ds : List D} {d : D} (h : funD Tg Z5h M 4 Z34 Tryz.f54 ds = some d) : DataSem Tg 54 ds d := Z5 (H := Z5h) SpOk.nil mixed InlOk.nil Tryz.func54 Z1p0 h
noncomputable def Zj5 : List D → Option D
 | [.agg [.list a0_0n a0_0c a0_0],.v (.int .i64 a1),.agg a2] => Zvh M a0_0n a0_0c a0_0 a1 a2
 | _ => none
theorem Z1p2 : ∀ ds d,Zj5 ds = some d → DataSem Tg 54 ds d := by
 intro ds d h
 unfold Zj5 at h
 split at h
 ·exact Z1p1 ((Z1jk M _ _ _ _ _).trans h)
 ·cases h
def Z3k : FnH := ⟨[],[(3,⟨(bm 12 56),[],(some 2)⟩),(9,⟨(bm 8 56),[],(some 2)⟩)]⟩
noncomputable def Z6q : Hints := ⟨[(15,Z2n),(54,Zj5),(55,Zo3)],[],[]⟩
noncomputable def Zab (m : Nat) (Z2z : Nat) (Z4j : Option Nat) (Z3v : List D) (Z3t : List D) : Option D :=
 cutK m (codeK Tg Z6q.sp ⟨0,[],false,[]⟩ (inlK Tg Z6q m 4) m Z3k (subc [1,1] (bodyOf Tryz.f26)) ⟨[Jk,Jk,(AV.ptr 0 0),(AV.ptr 1 0),Jk,Jk,Jk,Jk,Jk,Jk,Jk,Jk,Jk,Jk,Jk,Jk,Jk,Jk,Jk,Jk,Jk,Jk,Jk,Jk,Jk,Jk,Jk,Jk,Jk,Jk,Jk,Jk,Jk,Jk,Jk,Jk,Jk,Jk,Jk,Jk,Jk,Jk,Jk,Jk,Jk,Jk,Jk,Jk,Jk,Jk,Jk,Jk,Jk,Jk,Jk,Jk],[(Blk.d 1 [(D.list Z2z Z4j Z3v)]),(Blk.d 20 Z3t)]⟩
  (contK Tg Z6q.sp ⟨0,[],false,[]⟩ (inlK Tg Z6q m 4) m Z3k (endK Tg Tryz.f26 endV) []))
noncomputable def Zo5 (m : Nat) (Zd7 : Nat) (Zis : Option Nat) (Zit : List D) (Zgz : List D) : Option D :=
 cutK m (codeK Tg Z6q.sp ⟨0,[],false,[]⟩ (inlK Tg Z6q m 4) m Z3k (subc [1,1,1,1,1] (bodyOf Tryz.f26)) ⟨[Jk,Jk,Jk,(AV.ptr 1 0),Jk,Jk,Jk,Jk,Jk,Jk,Jk,Jk,Jk,Jk,Jk,Jk,Jk,Jk,Jk,Jk,Jk,Jk,Jk,Jk,Jk,Jk,Jk,Jk,Jk,Jk,Jk,Jk,Jk,Jk,Jk,Jk,Jk,Jk,Jk,Jk,Jk,Jk,Jk,Jk,Jk,Jk,Jk,Jk,Jk,Jk,Jk,Jk,Jk,Jk,Jk,Jk],[(Blk.d 1 [(D.list Zd7 Zis Zit)]),(Blk.d 20 Zgz)]⟩
  (contK Tg Z6q.sp ⟨0,[],false,[]⟩ (inlK Tg Z6q m 4) m Z3k (endK Tg Tryz.f26 endV) []))
theorem Z1gz (m : Nat) (Zd7 : Nat) (Zis : Option Nat) (Zit : List D) (Zgz : List D) : Zo5 m Zd7 Zis Zit Zgz =
 ((Zo3 [(D.agg Zgz)]).bind fun d11 =>
 (rdI .i64 (some d11)).bind fun x12 =>
 some (D.v (.int .i64 x12))) := (Z1w m _).trans (by kernel_rfl)
theorem Z1h0 (m : Nat) (Z2z : Nat) (Z4j : Option Nat) (Z3v : List D) (Z3t : List D) : Zab m Z2z Z4j Z3v Z3t =
 ((rdI .i64 Z3t[0]?).bind fun x4 =>
 (Zj5 [(D.agg [(D.list Z2z Z4j Z3v)]),(D.v (.int .i64 x4)),(D.agg ((List.drop 1 Z3t).take 17))]).bind fun d5 =>
 (rdI .i64 (some d5)).bind fun x6 =>
 cond (decide (x6 ≥ (0 : Int)))
 (some (D.v (.int .i64 (20 : Int))))
 (cond ((Z2z : Int) == (65536 : Int))
 (some (D.v (.int .i64 (3 : Int))))
 ((rdI .i64 Z3t[0]?).bind fun x7 =>
 cond (decide (x7 ≥ (0 : Int)))
 ((rdI .i64 Z3t[0]?).bind fun x8 =>
 (Z2n [(D.agg [(D.list Z2z Z4j Z3v)]),(D.v (.int .i64 x8))]).bind fun d9 =>
 (rdI .i64 (some d9)).bind fun x10 =>
 cond (x10 == (64 : Int))
 (some (D.v (.int .i64 (12 : Int))))
 (Zo5 m Z2z Z4j Z3v Z3t))
 (Zo5 m Z2z Z4j Z3v Z3t)))) := (Z1w m _).trans (by kernel_rfl)
noncomputable def Zz7 (m : Nat) (a0_0n : Nat) (a0_0c : Option Nat) (a0_0 : List D) (a1 : List D) : Option D :=
 if (List.length a1) = 20 then
 cond ((a0_0n : Int) == (0 : Int))
 ((rdI .i64 a1[0]?).bind fun x1 =>
 cond (x1 != (-1 : Int))
 (some (D.v (.int .i64 (19 : Int))))
 (cond (decide ((a0_0n : Int) > (0 : Int)))
 ((rdI .i64 a1[0]?).bind fun x2 =>
 cond (decide (x2 < (0 : Int)))
 (some (D.v (.int .i64 (19 : Int))))
 ((rdI .i64 a1[0]?).bind fun x3 =>
 cond (decide (x3 ≥ (a0_0n : Int)))
 (some (D.v (.int .i64 (19 : Int))))
 (Zab m a0_0n a0_0c a0_0 a1)))
 (Zab m a0_0n a0_0c a0_0 a1)))
 (cond (decide ((a0_0n : Int) > (0 : Int)))
 ((rdI .i64 a1[0]?).bind fun x13 =>
 cond (decide (x13 < (0 : Int)))
 (some (D.v (.int .i64 (19 : Int))))
 ((rdI .i64 a1[0]?).bind fun x14 =>
 cond (decide (x14 ≥ (a0_0n : Int)))
 (some (D.v (.int .i64 (19 : Int))))
 (Zab m a0_0n a0_0c a0_0 a1)))
 (Zab m a0_0n a0_0c a0_0 a1))
 else none
theorem Z1mg (m : Nat) (a0_0n : Nat) (a0_0c : Option Nat) (a0_0 : List D) (a1 : List D) : funD Tg Z6q m 4 Z3k Tryz.f26 [(D.agg [(D.list a0_0n a0_0c a0_0)]),(D.agg a1)] = Zz7 m a0_0n a0_0c a0_0 a1 := by kernel_rfl
theorem Z1s7 : Enters Tg 26 := ⟨Tryz.f26,Tryz.func26,by kernel_rfl,by kernel_rfl⟩
theorem Z1s8 {ds : List D} {d : D} (h : funD Tg Z6q M 4 Z3k Tryz.f26 ds = some d) : DataSem Tg 26 ds d := Z5 (H := Z6q) (SpOk.cons Z1bh (SpOk.cons Z1p2 (SpOk.cons Z1s6 SpOk.nil))) mixed InlOk.nil Tryz.func26 Z1s7 h
noncomputable def Z51 : List D → Option D
 | [.agg [.list a0_0n a0_0c a0_0],.agg a1] => Zz7 M a0_0n a0_0c a0_0 a1
 | _ => none
theorem Z1es : ∀ ds d,Z51 ds = some d → DataSem Tg 26 ds d := by
 intro ds d h
 unfold Z51 at h
 split at h
 ·exact Z1s8 ((Z1mg M _ _ _ _).trans h)
 ·cases h
def Zw : FnH := ⟨[(4,⟨(bm 476 114),[(1003000,20)],(some 5)⟩),(18,⟨(bm 2256 114),[],(some 5)⟩)],[(10,⟨(bm 2012 114),[],(some 6)⟩),(13,⟨(bm 988 114),[],(some 6)⟩),(12,⟨(bm 988 114),[],(some 6)⟩),(17,⟨(bm 208 114),[],(some 5)⟩),(19,⟨(bm 2256 114),[],(some 5)⟩)]⟩
noncomputable def Z1j : Hints := ⟨[(56,Z50)],[],[]⟩
noncomputable def Zvi (m n0 : Nat) (Zq : Int) (Zv : Int) (Zz : Nat) (Zy : Option Nat) (Z11 : List D) (Z13 : List D) (Z1d : Nat) (Z1q : Nat) (Z4t : List D) : Option D :=
 Z1k (bm 476 114) 0 5 (codeK Tg Z1j.sp ⟨0,[],false,[]⟩ (inlK Tg Z1j m 4) m Zw (subc [1,1,1,0,1,0,0] (bodyOf Tryz.f27))) n0 ⟨[Jk,Jk,(AV.ptr 0 0),(AV.ptr 1 0),(AV.ptr 2 0),Jk,(AV.ptr 3 0),(AV.d (D.v (.int .i64 Zq))),(AV.d (D.v (.int .i64 Zv))),Jk,Jk,Jk,Jk,Jk,Jk,Jk,Jk,Jk,Jk,Jk,Jk,Jk,Jk,Jk,Jk,Jk,Jk,Jk,Jk,Jk,Jk,Jk,Jk,Jk,Jk,Jk,Jk,Jk,Jk,Jk,Jk,Jk,Jk,Jk,Jk,Jk,Jk,Jk,Jk,Jk,Jk,Jk,Jk,Jk,Jk,Jk,Jk,Jk,Jk,Jk,Jk,Jk,Jk,Jk,Jk,Jk,Jk,Jk,Jk,Jk,Jk,Jk,Jk,Jk,Jk,Jk,Jk,Jk,Jk,Jk,Jk,Jk,Jk,Jk,Jk,Jk,Jk,Jk,Jk,Jk,Jk,Jk,Jk,Jk,Jk,Jk,Jk,Jk,Jk,Jk,Jk,Jk,Jk,Jk,Jk,Jk,Jk,Jk,Jk,Jk,Jk,Jk,Jk,Jk],[(Blk.d 1 [(D.list Zz Zy Z11)]),(Blk.d 20 Z13),(Blk.d 1 [(D.list 0 (some 0) [])]),(Blk.a 1 [(AV.sl 4 0 Z1d none 20)]),(Blk.d Z1q Z4t)]⟩
  (contK Tg Z1j.sp ⟨0,[],false,[]⟩ (inlK Tg Z1j m 4) m Zw (endK Tg Tryz.f27 endV) [.block 0,.code (subc [1,1,1,1] (bodyOf Tryz.f27))])
noncomputable def Z7y (m n0 : Nat) (Z2z : Int) (Z4j : Int) (Z3v : Int) (Z3t : Nat) (Z6p : Option Nat) (Za0 : List D) (Z91 : List D) (Zph : Nat) (Zx1 : Nat) (Z1ac : List D) (Zx5 : List D) : Option D :=
 cutK m (codeK Tg Z1j.sp ⟨0,[],false,[]⟩ (inlK Tg Z1j m 4) m Zw (subc [1,1,1,0,1,0,0,1,0,0,1,1,1] (bodyOf Tryz.f27)) ⟨[Jk,Jk,(AV.ptr 0 0),(AV.ptr 1 0),(AV.ptr 2 0),Jk,(AV.ptr 3 0),(AV.d (D.v (.int .i64 Z2z))),(AV.d (D.v (.int .i64 Z4j))),(AV.ptr 5 0),(AV.d (D.v (.int .i64 Z3v))),Jk,Jk,Jk,Jk,Jk,Jk,Jk,Jk,Jk,Jk,Jk,Jk,Jk,Jk,Jk,Jk,Jk,Jk,Jk,Jk,Jk,Jk,Jk,Jk,Jk,Jk,Jk,Jk,Jk,Jk,Jk,Jk,Jk,Jk,Jk,Jk,Jk,Jk,Jk,Jk,Jk,Jk,Jk,Jk,Jk,Jk,Jk,Jk,Jk,Jk,Jk,Jk,Jk,Jk,Jk,Jk,Jk,Jk,Jk,Jk,Jk,Jk,Jk,Jk,Jk,Jk,Jk,Jk,Jk,Jk,Jk,Jk,Jk,Jk,Jk,Jk,Jk,Jk,Jk,Jk,Jk,Jk,Jk,Jk,Jk,Jk,Jk,Jk,Jk,Jk,Jk,Jk,Jk,Jk,Jk,Jk,Jk,Jk,Jk,Jk,Jk,Jk,Jk],[(Blk.d 1 [(D.list Z3t Z6p Za0)]),(Blk.d 20 Z91),(Blk.d 1 [(D.list 0 (some 0) [])]),(Blk.a 1 [(AV.sl 4 0 Zph none 20)]),(Blk.d Zx1 Z1ac),(Blk.d 20 Zx5)]⟩
  (contK Tg Z1j.sp ⟨0,[],false,[]⟩ (inlK Tg Z1j m 4) m Zw (endK Tg Tryz.f27 endV) [.block 1,.code (subc [1,1,1,0,1,0,0,1,1] (bodyOf Tryz.f27)),.loop (bm 476 114) 5 (subc [1,1,1,0,1,0,0] (bodyOf Tryz.f27)) n0,.block 0,.code (subc [1,1,1,1] (bodyOf Tryz.f27))]))
noncomputable def Z17z (m n0 : Nat) (Zd7 : Int) (Zis : Int) (Zit : Nat) (Zgz : Option Nat) (Zo0 : List D) (Zme : List D) (Zz4 : Nat) (Z11x : Nat) (Z16k : List D) (Z1cg : List D) : Option D :=
 cutK m (codeK Tg Z1j.sp ⟨0,[],false,[]⟩ (inlK Tg Z1j m 4) m Zw (subc [1,1,1,0,1,0,0,1,0,0,1,1,1,0,1,0,1] (bodyOf Tryz.f27)) ⟨[Jk,Jk,(AV.ptr 0 0),(AV.ptr 1 0),(AV.ptr 2 0),Jk,(AV.ptr 3 0),(AV.d (D.v (.int .i64 Zd7))),(AV.d (D.v (.int .i64 Zis))),(AV.ptr 5 0),Jk,Jk,Jk,Jk,Jk,Jk,Jk,Jk,Jk,Jk,Jk,Jk,Jk,Jk,Jk,Jk,Jk,Jk,Jk,Jk,Jk,Jk,Jk,Jk,Jk,Jk,Jk,Jk,Jk,Jk,Jk,Jk,Jk,Jk,Jk,Jk,Jk,Jk,Jk,Jk,Jk,Jk,Jk,Jk,Jk,Jk,Jk,Jk,Jk,Jk,Jk,Jk,Jk,Jk,Jk,Jk,Jk,Jk,Jk,Jk,Jk,Jk,Jk,Jk,Jk,Jk,Jk,Jk,Jk,Jk,Jk,Jk,Jk,Jk,Jk,Jk,Jk,Jk,Jk,Jk,Jk,Jk,Jk,Jk,Jk,Jk,Jk,Jk,Jk,Jk,Jk,Jk,Jk,Jk,Jk,Jk,Jk,Jk,Jk,Jk,Jk,Jk,Jk,Jk],[(Blk.d 1 [(D.list Zit Zgz Zo0)]),(Blk.d 20 Zme),(Blk.d 1 [(D.list 0 (some 0) [])]),(Blk.a 1 [(AV.sl 4 0 Zz4 none 20)]),(Blk.d Z11x Z16k),(Blk.d 20 Z1cg)]⟩
  (contK Tg Z1j.sp ⟨0,[],false,[]⟩ (inlK Tg Z1j m 4) m Zw (endK Tg Tryz.f27 endV) [.code (subc [1,1,1,0,1,0,0,1,0,0,1,1,1,1] (bodyOf Tryz.f27)),.block 1,.code (subc [1,1,1,0,1,0,0,1,1] (bodyOf Tryz.f27)),.loop (bm 476 114) 5 (subc [1,1,1,0,1,0,0] (bodyOf Tryz.f27)) n0,.block 0,.code (subc [1,1,1,1] (bodyOf Tryz.f27))]))
noncomputable def Zfp (m n0 : Nat) (Z10h : Int) (Z15c : Int) (Zx2 : Nat) (Z13s : Option Nat) (Z13t : List D) (Z16d : List D) (Z117 : Nat) (Z1bg : Nat) (Z1ch : List D) (Z1oa : List D) : Option D :=
 cutK m (codeK Tg Z1j.sp ⟨0,[],false,[]⟩ (inlK Tg Z1j m 4) m Zw (subc [1,1,1,0,1,0,0,1,0,0,1,1,1,1] (bodyOf Tryz.f27)) ⟨[Jk,Jk,(AV.ptr 0 0),(AV.ptr 1 0),(AV.ptr 2 0),Jk,(AV.ptr 3 0),(AV.d (D.v (.int .i64 Z10h))),(AV.d (D.v (.int .i64 Z15c))),(AV.ptr 5 0),Jk,Jk,Jk,Jk,Jk,Jk,Jk,Jk,Jk,Jk,Jk,Jk,Jk,Jk,Jk,Jk,Jk,Jk,Jk,Jk,Jk,Jk,Jk,Jk,Jk,Jk,Jk,Jk,Jk,Jk,Jk,Jk,Jk,Jk,Jk,Jk,Jk,Jk,Jk,Jk,Jk,Jk,Jk,Jk,Jk,Jk,Jk,Jk,Jk,Jk,Jk,Jk,Jk,Jk,Jk,Jk,Jk,Jk,Jk,Jk,Jk,Jk,Jk,Jk,Jk,Jk,Jk,Jk,Jk,Jk,Jk,Jk,Jk,Jk,Jk,Jk,Jk,Jk,Jk,Jk,Jk,Jk,Jk,Jk,Jk,Jk,Jk,Jk,Jk,Jk,Jk,Jk,Jk,Jk,Jk,Jk,Jk,Jk,Jk,Jk,Jk,Jk,Jk,Jk],[(Blk.d 1 [(D.list Zx2 Z13s Z13t)]),(Blk.d 20 Z16d),(Blk.d 1 [(D.list 0 (some 0) [])]),(Blk.a 1 [(AV.sl 4 0 Z117 none 20)]),(Blk.d Z1bg Z1ch),(Blk.d 20 Z1oa)]⟩
  (contK Tg Z1j.sp ⟨0,[],false,[]⟩ (inlK Tg Z1j m 4) m Zw (endK Tg Tryz.f27 endV) [.block 1,.code (subc [1,1,1,0,1,0,0,1,1] (bodyOf Tryz.f27)),.loop (bm 476 114) 5 (subc [1,1,1,0,1,0,0] (bodyOf Tryz.f27)) n0,.block 0,.code (subc [1,1,1,1] (bodyOf Tryz.f27))]))
theorem Z1h1 (m n0 : Nat) (Z10h : Int) (Z15c : Int) (Zx2 : Nat) (Z13s : Option Nat) (Z13t : List D) (Z16d : List D) (Z117 : Nat) (Z1bg : Nat) (Z1ch : List D) (Z1oa : List D) : Zfp m n0 Z10h Z15c Zx2 Z13s Z13t Z16d Z117 Z1bg Z1ch Z1oa =
 (if (List.length Z1oa) = 20 then
 if ownB ⟨0,[],false,[]⟩ 4 = true ∧ Z1bg = (Z117 * 20) ∧ Z2v (Z117 + 1) 128 ∧ (List.length Z1oa) = 20 then
 Zvi m n0 Z10h (IntKind.wrap .i64 (Z15c + (1 : Int))) Zx2 Z13s Z13t Z16d (Z117 + 1) ((Z117 + 1) * 20) (Z1ch ++ Z1oa)
 else none
 else none) := (Z1w m _).trans (by kernel_rfl)
theorem Z1h2 (m n0 : Nat) (Zd7 : Int) (Zis : Int) (Zit : Nat) (Zgz : Option Nat) (Zo0 : List D) (Zme : List D) (Zz4 : Nat) (Z11x : Nat) (Z16k : List D) (Z1cg : List D) : Z17z m n0 Zd7 Zis Zit Zgz Zo0 Zme Zz4 Z11x Z16k Z1cg =
 (if (List.length Zme) = 20 then
 if ownB ⟨0,[],false,[]⟩ 4 = true ∧ Z11x = (Zz4 * 20) ∧ Z2v (Zz4 + 1) 128 ∧ (List.length Zme) = 20 then
 Zfp m n0 Zd7 Zis Zit Zgz Zo0 Zme (Zz4 + 1) ((Zz4 + 1) * 20) (Z16k ++ Zme) Z1cg
 else none
 else none) := (Z1w m _).trans (by kernel_rfl)
theorem Z1h3 (m n0 : Nat) (Z2z : Int) (Z4j : Int) (Z3v : Int) (Z3t : Nat) (Z6p : Option Nat) (Za0 : List D) (Z91 : List D) (Zph : Nat) (Zx1 : Nat) (Z1ac : List D) (Zx5 : List D) : Z7y m n0 Z2z Z4j Z3v Z3t Z6p Za0 Z91 Zph Zx1 Z1ac Zx5 =
 (cond (decide (Z2z < (0 : Int)))
 (cond (Z3v == (1 : Int))
 (Z17z m n0 (Zph : Int) Z4j Z3t Z6p Za0 Z91 Zph Zx1 Z1ac Zx5)
 (Zfp m n0 Z2z Z4j Z3t Z6p Za0 Z91 Zph Zx1 Z1ac Zx5))
 (Zfp m n0 Z2z Z4j Z3t Z6p Za0 Z91 Zph Zx1 Z1ac Zx5)) := (Z1w m _).trans (by kernel_rfl)
noncomputable def Zx6 (m : Nat) (Z1p3 : Int) (Z1jl : Nat) (Z1s9 : Option Nat) (Z1sa : List D) (Z1sb : List D) (Z1sc : Nat) (Z1sd : Nat) (Z1qn : List D) : Option D :=
 cutK m (codeK Tg Z1j.sp ⟨0,[],false,[]⟩ (inlK Tg Z1j m 4) m Zw (subc [1,1,1,1,1] (bodyOf Tryz.f27)) ⟨[Jk,Jk,Jk,Jk,(AV.ptr 2 0),Jk,(AV.ptr 3 0),(AV.d (D.v (.int .i64 Z1p3))),Jk,Jk,Jk,Jk,Jk,Jk,Jk,Jk,Jk,Jk,Jk,Jk,Jk,Jk,Jk,Jk,Jk,Jk,Jk,Jk,Jk,Jk,Jk,Jk,Jk,Jk,Jk,Jk,Jk,Jk,Jk,Jk,Jk,Jk,Jk,Jk,Jk,Jk,Jk,Jk,Jk,Jk,Jk,Jk,Jk,Jk,Jk,Jk,Jk,Jk,Jk,Jk,Jk,Jk,Jk,Jk,Jk,Jk,Jk,Jk,Jk,Jk,Jk,Jk,Jk,Jk,Jk,Jk,Jk,Jk,Jk,Jk,Jk,Jk,Jk,Jk,Jk,Jk,Jk,Jk,Jk,Jk,Jk,Jk,Jk,Jk,Jk,Jk,Jk,Jk,Jk,Jk,Jk,Jk,Jk,Jk,Jk,Jk,Jk,Jk,Jk,Jk,Jk,Jk,Jk,Jk],[(Blk.d 1 [(D.list Z1jl Z1s9 Z1sa)]),(Blk.d 20 Z1sb),(Blk.d 1 [(D.list 0 (some 0) [])]),(Blk.a 1 [(AV.sl 4 0 Z1sc none 20)]),(Blk.d Z1sd Z1qn)]⟩
  (contK Tg Z1j.sp ⟨0,[],false,[]⟩ (inlK Tg Z1j m 4) m Zw (endK Tg Tryz.f27 endV) []))
noncomputable def Zri (m n0 : Nat) (Zf5 : Int) (Zav : Int) (Zic : Nat) (Zug : Option Nat) (Zn0 : List D) (Zq7 : List D) (Zpc : Nat) (Zh1 : Nat) (Zrj : List D) : Option D :=
 Z1k (bm 2256 114) 0 5 (codeK Tg Z1j.sp ⟨0,[],false,[]⟩ (inlK Tg Z1j m 4) m Zw (subc [1,1,1,1,1,0,1,0,0] (bodyOf Tryz.f27))) n0 ⟨[Jk,Jk,Jk,Jk,(AV.ptr 2 0),Jk,(AV.ptr 3 0),(AV.d (D.v (.int .i64 Zf5))),Jk,Jk,Jk,(AV.d (D.v (.int .i64 Zav))),Jk,Jk,Jk,Jk,Jk,Jk,Jk,Jk,Jk,Jk,Jk,Jk,Jk,Jk,Jk,Jk,Jk,Jk,Jk,Jk,Jk,Jk,Jk,Jk,Jk,Jk,Jk,Jk,Jk,Jk,Jk,Jk,Jk,Jk,Jk,Jk,Jk,Jk,Jk,Jk,Jk,Jk,Jk,Jk,Jk,Jk,Jk,Jk,Jk,Jk,Jk,Jk,Jk,Jk,Jk,Jk,Jk,Jk,Jk,Jk,Jk,Jk,Jk,Jk,Jk,Jk,Jk,Jk,Jk,Jk,Jk,Jk,Jk,Jk,Jk,Jk,Jk,Jk,Jk,Jk,Jk,Jk,Jk,Jk,Jk,Jk,Jk,Jk,Jk,Jk,Jk,Jk,Jk,Jk,Jk,Jk,Jk,Jk,Jk,Jk,Jk,Jk],[(Blk.d 1 [(D.list Zic Zug Zn0)]),(Blk.d 20 Zq7),(Blk.d 1 [(D.list 0 (some 0) [])]),(Blk.a 1 [(AV.sl 4 0 Zpc none 20)]),(Blk.d Zh1 Zrj)]⟩
  (contK Tg Z1j.sp ⟨0,[],false,[]⟩ (inlK Tg Z1j m 4) m Zw (endK Tg Tryz.f27 endV) [.block 2,.code (subc [1,1,1,1,1,1] (bodyOf Tryz.f27))])
noncomputable def Zo6 (m n0 : Nat) (Z240 : Int) (Z241 : Int) (Z242 : Nat) (Z243 : Option Nat) (Z244 : List D) (Z245 : List D) (Z246 : Nat) (Z247 : Nat) (Z248 : List D) : Option D :=
 cutK m (codeK Tg Z1j.sp ⟨0,[],false,[]⟩ (inlK Tg Z1j m 4) m Zw (subc [1,1,1,1,1,0,1,0,0,1,1] (bodyOf Tryz.f27)) ⟨[Jk,Jk,Jk,Jk,(AV.ptr 2 0),Jk,(AV.ptr 3 0),(AV.d (D.v (.int .i64 Z240))),Jk,Jk,Jk,(AV.d (D.v (.int .i64 Z241))),Jk,Jk,Jk,Jk,Jk,Jk,Jk,Jk,Jk,Jk,Jk,Jk,Jk,Jk,Jk,Jk,Jk,Jk,Jk,Jk,Jk,Jk,Jk,Jk,Jk,Jk,Jk,Jk,Jk,Jk,Jk,Jk,Jk,Jk,Jk,Jk,Jk,Jk,Jk,Jk,Jk,Jk,Jk,Jk,Jk,Jk,Jk,Jk,Jk,Jk,Jk,Jk,Jk,Jk,Jk,Jk,Jk,Jk,Jk,Jk,Jk,Jk,Jk,Jk,Jk,Jk,Jk,Jk,Jk,Jk,Jk,Jk,Jk,Jk,Jk,Jk,Jk,Jk,Jk,Jk,Jk,Jk,Jk,Jk,Jk,Jk,Jk,Jk,Jk,Jk,Jk,Jk,Jk,Jk,Jk,Jk,Jk,Jk,Jk,Jk,Jk,Jk],[(Blk.d 1 [(D.list Z242 Z243 Z244)]),(Blk.d 20 Z245),(Blk.d 1 [(D.list 0 (some 0) [])]),(Blk.a 1 [(AV.sl 4 0 Z246 none 20)]),(Blk.d Z247 Z248)]⟩
  (contK Tg Z1j.sp ⟨0,[],false,[]⟩ (inlK Tg Z1j m 4) m Zw (endK Tg Tryz.f27 endV) [.loop (bm 2256 114) 5 (subc [1,1,1,1,1,0,1,0,0] (bodyOf Tryz.f27)) n0,.block 2,.code (subc [1,1,1,1,1,1] (bodyOf Tryz.f27))]))
theorem Zqm (m n0 : Nat) (Z240 : Int) (Z241 : Int) (Z242 : Nat) (Z243 : Option Nat) (Z244 : List D) (Z245 : List D) (Z246 : Nat) (Z247 : Nat) (Z248 : List D) : Zo6 m n0 Z240 Z241 Z242 Z243 Z244 Z245 Z246 Z247 Z248 =
 (Zri m n0 Z240 (IntKind.wrap .i64 (Z241 + (1 : Int))) Z242 Z243 Z244 Z245 Z246 Z247 Z248) := (Z1w m _).trans (by kernel_rfl)
theorem Z1jm (m n0 : Nat) (Zf5 : Int) (Zav : Int) (Zic : Nat) (Zug : Option Nat) (Zn0 : List D) (Zq7 : List D) (Zpc : Nat) (Zh1 : Nat) (Zrj : List D) : Zri m (n0 + 1) Zf5 Zav Zic Zug Zn0 Zq7 Zpc Zh1 Zrj =
 (cond (decide (Zav < (Zpc : Int)))
 (cond (Zav != Zf5)
 (if 0 ≤ Zav ∧ Zav < (Zpc : Int) then
 (rdI .i64 Zrj[((0 + ((Int.toNat Zav) * 20)) + 0)]?).bind fun x23 =>
 cond (decide (x23 ≥ Zf5))
 (if 0 ≤ Zav ∧ Zav < (Zpc : Int) then
 (rdI .i64 Zrj[((0 + ((Int.toNat Zav) * 20)) + 0)]?).bind fun x24 =>
 if 0 ≤ Zav ∧ Zav < (Zpc : Int) then
 if 1 = 1 ∧ ((0 + ((Int.toNat Zav) * 20)) + 0) < Zh1 then
 Zo6 m n0 Zf5 Zav Zic Zug Zn0 Zq7 Zpc Zh1 (List.set Zrj ((0 + ((Int.toNat Zav) * 20)) + 0) (D.v (.int .i64 (IntKind.wrap .i64 (x24 + (1 : Int))))))
 else none
 else none
 else none)
 (Zo6 m n0 Zf5 Zav Zic Zug Zn0 Zq7 Zpc Zh1 Zrj)
 else none)
 (Zo6 m n0 Zf5 Zav Zic Zug Zn0 Zq7 Zpc Zh1 Zrj))
 (if (0 + (Zpc * 20)) ≤ Zh1 then
 some (D.tup [(D.agg [(D.list Zpc none (cutL Zh1 Zrj 0 (Zpc * 20)))]),(D.v (.int .i64 Zf5))])
 else none)) := by kernel_rfl
theorem Z11y (m : Nat) (Z1p3 : Int) (Z1jl : Nat) (Z1s9 : Option Nat) (Z1sa : List D) (Z1sb : List D) (Z1sc : Nat) (Z1sd : Nat) (Z1qn : List D) : Zx6 m Z1p3 Z1jl Z1s9 Z1sa Z1sb Z1sc Z1sd Z1qn =
 (Zri m m Z1p3 (0 : Int) Z1jl Z1s9 Z1sa Z1sb Z1sc Z1sd Z1qn) := (Z1w m _).trans (by kernel_rfl)
theorem Z1mh (m n0 : Nat) (Zq : Int) (Zv : Int) (Zz : Nat) (Zy : Option Nat) (Z11 : List D) (Z13 : List D) (Z1d : Nat) (Z1q : Nat) (Z4t : List D) : Zvi m (n0 + 1) Zq Zv Zz Zy Z11 Z13 Z1d Z1q Z4t =
 (cond (decide (Zv < (Zz : Int)))
 (if 0 ≤ Zv ∧ Zv < (Zz : Int) then
 if (((Int.toNat Zv) * 20) + 20) ≤ (List.length Z11) then
 if (List.length ((List.drop ((Int.toNat Zv) * 20) Z11).take 20)) = 20 then
 cond (decide (Zv > (0 : Int)))
 ((rdI .i64 ((List.drop ((Int.toNat Zv) * 20) Z11).take 20)[0]?).bind fun x13 =>
 (rdI .i64 Z13[0]?).bind fun x14 =>
 cond (decide (x13 > x14))
 (Z7y m n0 Zq Zv (1 : Int) Zz Zy Z11 Z13 Z1d Z1q Z4t ((List.drop ((Int.toNat Zv) * 20) Z11).take 20))
 ((rdI .i64 ((List.drop ((Int.toNat Zv) * 20) Z11).take 20)[0]?).bind fun x15 =>
 (rdI .i64 Z13[0]?).bind fun x16 =>
 cond (x15 == x16)
 ((Z50 [(D.agg ((List.drop 1 ((List.drop ((Int.toNat Zv) * 20) Z11).take 20)).take 17)),(D.agg ((List.drop 1 Z13).take 17))]).bind fun d17 =>
 (rdI .i64 (some d17)).bind fun x18 =>
 cond (decide (x18 > (0 : Int)))
 (Z7y m n0 Zq Zv (1 : Int) Zz Zy Z11 Z13 Z1d Z1q Z4t ((List.drop ((Int.toNat Zv) * 20) Z11).take 20))
 (Z7y m n0 Zq Zv (0 : Int) Zz Zy Z11 Z13 Z1d Z1q Z4t ((List.drop ((Int.toNat Zv) * 20) Z11).take 20)))
 (Z7y m n0 Zq Zv (0 : Int) Zz Zy Z11 Z13 Z1d Z1q Z4t ((List.drop ((Int.toNat Zv) * 20) Z11).take 20))))
 (Z7y m n0 Zq Zv (0 : Int) Zz Zy Z11 Z13 Z1d Z1q Z4t ((List.drop ((Int.toNat Zv) * 20) Z11).take 20))
 else none
 else none
 else none)
 (cond (decide (Zq < (0 : Int)))
 (if (List.length Z13) = 20 then
 if ownB ⟨0,[],false,[]⟩ 4 = true ∧ Z1q = (Z1d * 20) ∧ Z2v (Z1d + 1) 128 ∧ (List.length Z13) = 20 then
 Zx6 m (Z1d : Int) Zz Zy Z11 Z13 (Z1d + 1) ((Z1d + 1) * 20) (Z4t ++ Z13)
 else none
 else none)
 (Zx6 m Zq Zz Zy Z11 Z13 Z1d Z1q Z4t))) := by kernel_rfl
noncomputable def Z13x (m : Nat) (a0_0n : Nat) (a0_0c : Option Nat) (a0_0 : List D) (a1 : List D) : Option D :=
 if (List.length a1) = 20 then
 Zvi m m (-1 : Int) (0 : Int) a0_0n a0_0c a0_0 a1 0 0 []
 else none
theorem Z1p4 (m : Nat) (a0_0n : Nat) (a0_0c : Option Nat) (a0_0 : List D) (a1 : List D) : funD Tg Z1j m 4 Zw Tryz.f27 [(D.agg [(D.list a0_0n a0_0c a0_0)]),(D.agg a1)] = Z13x m a0_0n a0_0c a0_0 a1 := by kernel_rfl
theorem Z1uy : Enters Tg 27 := ⟨Tryz.f27,Tryz.func27,by kernel_rfl,by kernel_rfl⟩
theorem Z1uz {ds : List D} {d : D} (h : funD Tg Z1j M 4 Zw Tryz.f27 ds = some d) : DataSem Tg 27 ds d := Z5 (H := Z1j) (SpOk.cons Ztu SpOk.nil) mixed InlOk.nil Tryz.func27 Z1uy h
noncomputable def Z5x : List D → Option D
 | [.agg [.list a0_0n a0_0c a0_0],.agg a1] => Z13x M a0_0n a0_0c a0_0 a1
 | _ => none
theorem Z1ii : ∀ ds d,Z5x ds = some d → DataSem Tg 27 ds d := by
 intro ds d h
 unfold Z5x at h
 split at h
 ·exact Z1uz ((Z1p4 M _ _ _ _).trans h)
 ·cases h
def Z1o : FnH := ⟨[(3,⟨(bm 30 64),[],(some 3)⟩)],[(5,⟨(bm 30 64),[],(some 3)⟩),(8,⟨(bm 62 64),[],(some 4)⟩),(4,⟨(bm 30 64),[],(some 3)⟩)]⟩
noncomputable def Z2r : Hints := ⟨[(12,Z7w),(26,Z51),(27,Z5x),(45,Zsy),(46,Zj4)],[],[]⟩
noncomputable def Zrk (m n0 : Nat) (Zq : Int) (Zv : Nat) (Zz : Option Nat) (Zy : List D) (Z11 : List D) : Option D :=
 Z1k (bm 30 64) 0 3 (codeK Tg Z2r.sp ⟨0,[],false,[]⟩ (inlK Tg Z2r m 4) m Z1o (subc [1,1,0,1,0,0] (bodyOf Tryz.f11))) n0 ⟨[Jk,(AV.ptr 0 0),(AV.ptr 1 0),(AV.ptr 2 0),(AV.d (D.v (.int .i64 Zq))),Jk,Jk,Jk,Jk,Jk,Jk,Jk,Jk,Jk,Jk,Jk,Jk,Jk,Jk,Jk,Jk,Jk,Jk,Jk,Jk,Jk,Jk,Jk,Jk,Jk,Jk,Jk,Jk,Jk,Jk,Jk,Jk,Jk,Jk,Jk,Jk,Jk,Jk,Jk,Jk,Jk,Jk,Jk,Jk,Jk,Jk,Jk,Jk,Jk,Jk,Jk,Jk,Jk,Jk,Jk,Jk,Jk,Jk,Jk],[(Blk.d 1 [(D.list Zv Zz Zy)]),(Blk.d 1 [(D.list 0 (some 0) [])]),(Blk.d 1 Z11)]⟩
  (contK Tg Z2r.sp ⟨0,[],false,[]⟩ (inlK Tg Z2r m 4) m Z1o (endK Tg Tryz.f11 endV) [.block 0,.code (subc [1,1,1] (bodyOf Tryz.f11))])
noncomputable def Z180 (m n0 : Nat) (Z2z : Int) (Z4j : Nat) (Z3v : Option Nat) (Z3t : List D) (Z6p : List D) : Option D :=
 cutK m (codeK Tg Z2r.sp ⟨0,[],false,[]⟩ (inlK Tg Z2r m 4) m Z1o (subc [1,1,0,1,0,0,1] (bodyOf Tryz.f11)) ⟨[Jk,(AV.ptr 0 0),(AV.ptr 1 0),(AV.ptr 2 0),(AV.d (D.v (.int .i64 Z2z))),Jk,Jk,Jk,Jk,Jk,Jk,Jk,Jk,Jk,Jk,Jk,Jk,Jk,Jk,Jk,Jk,Jk,Jk,Jk,Jk,Jk,Jk,Jk,Jk,Jk,Jk,Jk,Jk,Jk,Jk,Jk,Jk,Jk,Jk,Jk,Jk,Jk,Jk,Jk,Jk,Jk,Jk,Jk,Jk,Jk,Jk,Jk,Jk,Jk,Jk,Jk,Jk,Jk,Jk,Jk,Jk,Jk,Jk,Jk],[(Blk.d 1 [(D.list Z4j Z3v Z3t)]),(Blk.d 1 [(D.list 0 (some 0) [])]),(Blk.d 1 Z6p)]⟩
  (contK Tg Z2r.sp ⟨0,[],false,[]⟩ (inlK Tg Z2r m 4) m Z1o (endK Tg Tryz.f11 endV) [.loop (bm 30 64) 3 (subc [1,1,0,1,0,0] (bodyOf Tryz.f11)) n0,.block 0,.code (subc [1,1,1] (bodyOf Tryz.f11))]))
noncomputable def Zo7 (m n0 : Nat) (Zd7 : Int) (Zis : Nat) (Zit : Option Nat) (Zgz : List D) (Zo0 : List D) (Zme : List D) : Option D :=
 cutK m (codeK Tg Z2r.sp ⟨0,[],false,[]⟩ (inlK Tg Z2r m 4) m Z1o (subc [1,1,0,1,0,0,1,0,0,1,1] (bodyOf Tryz.f11)) ⟨[Jk,(AV.ptr 0 0),(AV.ptr 1 0),(AV.ptr 2 0),(AV.d (D.v (.int .i64 Zd7))),(AV.ptr 3 0),Jk,Jk,Jk,Jk,Jk,Jk,Jk,Jk,Jk,Jk,Jk,Jk,Jk,Jk,Jk,Jk,Jk,Jk,Jk,Jk,Jk,Jk,Jk,Jk,Jk,Jk,Jk,Jk,Jk,Jk,Jk,Jk,Jk,Jk,Jk,Jk,Jk,Jk,Jk,Jk,Jk,Jk,Jk,Jk,Jk,Jk,Jk,Jk,Jk,Jk,Jk,Jk,Jk,Jk,Jk,Jk,Jk,Jk],[(Blk.d 1 [(D.list Zis Zit Zgz)]),(Blk.d 1 [(D.list 0 (some 0) [])]),(Blk.d 1 Zo0),(Blk.d 20 Zme)]⟩
  (contK Tg Z2r.sp ⟨0,[],false,[]⟩ (inlK Tg Z2r m 4) m Z1o (endK Tg Tryz.f11 endV) [.block 1,.code (subc [1,1,0,1,0,0,1,1] (bodyOf Tryz.f11)),.loop (bm 30 64) 3 (subc [1,1,0,1,0,0] (bodyOf Tryz.f11)) n0,.block 0,.code (subc [1,1,1] (bodyOf Tryz.f11))]))
noncomputable def Zx7 (m n0 : Nat) (Z10h : Int) (Z15c : Nat) (Zx2 : Option Nat) (Z13s : List D) (Z13t : List D) : Option D :=
 cutK m (codeK Tg Z2r.sp ⟨0,[],false,[]⟩ (inlK Tg Z2r m 4) m Z1o (subc [1,1,0,1,0,0,1,1] (bodyOf Tryz.f11)) ⟨[Jk,(AV.ptr 0 0),(AV.ptr 1 0),(AV.ptr 2 0),(AV.d (D.v (.int .i64 Z10h))),Jk,Jk,Jk,Jk,Jk,Jk,Jk,Jk,Jk,Jk,Jk,Jk,Jk,Jk,Jk,Jk,Jk,Jk,Jk,Jk,Jk,Jk,Jk,Jk,Jk,Jk,Jk,Jk,Jk,Jk,Jk,Jk,Jk,Jk,Jk,Jk,Jk,Jk,Jk,Jk,Jk,Jk,Jk,Jk,Jk,Jk,Jk,Jk,Jk,Jk,Jk,Jk,Jk,Jk,Jk,Jk,Jk,Jk,Jk],[(Blk.d 1 [(D.list Z15c Zx2 Z13s)]),(Blk.d 1 [(D.list 0 (some 0) [])]),(Blk.d 1 Z13t)]⟩
  (contK Tg Z2r.sp ⟨0,[],false,[]⟩ (inlK Tg Z2r m 4) m Z1o (endK Tg Tryz.f11 endV) [.loop (bm 30 64) 3 (subc [1,1,0,1,0,0] (bodyOf Tryz.f11)) n0,.block 0,.code (subc [1,1,1] (bodyOf Tryz.f11))]))
theorem Z11z (m n0 : Nat) (Z10h : Int) (Z15c : Nat) (Zx2 : Option Nat) (Z13s : List D) (Z13t : List D) : Zx7 m n0 Z10h Z15c Zx2 Z13s Z13t =
 (Zrk m n0 (IntKind.wrap .i64 (Z10h + (1 : Int))) Z15c Zx2 Z13s Z13t) := (Z1w m _).trans (by kernel_rfl)
theorem Z1h4 (m n0 : Nat) (Zd7 : Int) (Zis : Nat) (Zit : Option Nat) (Zgz : List D) (Zo0 : List D) (Zme : List D) : Zo7 m n0 Zd7 Zis Zit Zgz Zo0 Zme =
 ((Z51 [(D.agg Zo0),(D.agg Zme)]).bind fun d50 =>
 (rdI .i64 (some d50)).bind fun x51 =>
 cond (x51 == (0 : Int))
 ((Z5x [(D.agg Zo0),(D.agg Zme)]).bind fun d52 =>
 (rdT d52).bind fun r53 =>
 if List.length r53 = 2 then
 (rdA r53[0]?).bind fun c54 =>
 (rdI .i64 r53[1]?).bind fun x55 =>
 if (List.length c54) = 1 then
 Zx7 m n0 Zd7 Zis Zit Zgz c54
 else none
 else none)
 (Zx7 m n0 Zd7 Zis Zit Zgz Zo0)) := (Z1w m _).trans (by kernel_rfl)
theorem Z1h5 (m n0 : Nat) (Z2z : Int) (Z4j : Nat) (Z3v : Option Nat) (Z3t : List D) (Z6p : List D) : Z180 m n0 Z2z Z4j Z3v Z3t Z6p =
 (if 0 ≤ Z2z ∧ Z2z < (Z4j : Int) then
 (rdI .u8 Z3t[(((Int.toNat Z2z) * 4) + 1)]?).bind fun x39 =>
 (Z7w [(D.v (.int .u8 x39))]).bind fun d40 =>
 (rdA (some d40)).bind fun c41 =>
 if 0 ≤ Z2z ∧ Z2z < (Z4j : Int) then
 (rdI .u8 Z3t[(((Int.toNat Z2z) * 4) + 2)]?).bind fun x42 =>
 (Zsy [(D.v (.int .u8 x42))]).bind fun d43 =>
 (rdL (some d43)).bind fun q44 =>
 if 0 ≤ Z2z ∧ Z2z < (Z4j : Int) then
 (rdI .u8 Z3t[(((Int.toNat Z2z) * 4) + 3)]?).bind fun x45 =>
 (Zj4 [(D.v (.int .u8 x45))]).bind fun d46 =>
 (rdL (some d46)).bind fun q47 =>
 if (List.length c41) = 17 then
 if (List.length (List.set (List.set (putL 20 [(D.v (.int .i64 (-1 : Int))),(D.v (.int .u8 (0 : Int))),zU,zU,zU,zU,zU,zU,zU,zU,zU,zU,zU,zU,zU,zU,zU,zU,(D.list 0 (some 0) []),(D.list 0 (some 0) [])] 1 17 c41) 18 (D.list q44.n q44.cap q44.cs)) 19 (D.list q47.n q47.cap q47.cs))) = 20 then
 cond (decide (Z2z > (0 : Int)))
 (if 0 ≤ Z2z ∧ Z2z < (Z4j : Int) then
 (rdI .u8 Z3t[(((Int.toNat Z2z) * 4) + 0)]?).bind fun x48 =>
 (rdL Z6p[0]?).bind fun q49 =>
 if (q49.n : Int) = 0 then none else
 Zo7 m n0 Z2z Z4j Z3v Z3t Z6p (List.set (List.set (List.set (putL 20 [(D.v (.int .i64 (-1 : Int))),(D.v (.int .u8 (0 : Int))),zU,zU,zU,zU,zU,zU,zU,zU,zU,zU,zU,zU,zU,zU,zU,zU,(D.list 0 (some 0) []),(D.list 0 (some 0) [])] 1 17 c41) 18 (D.list q44.n q44.cap q44.cs)) 19 (D.list q47.n q47.cap q47.cs)) 0 (D.v (.int .i64 (Int.tmod (IntKind.wrap .i64 x48) (q49.n : Int)))))
 else none)
 (Zo7 m n0 Z2z Z4j Z3v Z3t Z6p (List.set (List.set (putL 20 [(D.v (.int .i64 (-1 : Int))),(D.v (.int .u8 (0 : Int))),zU,zU,zU,zU,zU,zU,zU,zU,zU,zU,zU,zU,zU,zU,zU,zU,(D.list 0 (some 0) []),(D.list 0 (some 0) [])] 1 17 c41) 18 (D.list q44.n q44.cap q44.cs)) 19 (D.list q47.n q47.cap q47.cs)))
 else none
 else none
 else none
 else none
 else none) := (Z1w m _).trans (by kernel_rfl)
theorem Z1jn (m n0 : Nat) (Zq : Int) (Zv : Nat) (Zz : Option Nat) (Zy : List D) (Z11 : List D) : Zrk m (n0 + 1) Zq Zv Zz Zy Z11 =
 (cond (decide (Zq < (Zv : Int)))
 (cond (decide (Zq < (25 : Int)))
 (Z180 m n0 Zq Zv Zz Zy Z11)
 (if (List.length Z11) = 1 then
 some (D.agg Z11)
 else none))
 (if (List.length Z11) = 1 then
 some (D.agg Z11)
 else none)) := by kernel_rfl
noncomputable def Z1ij (m : Nat) (a0_0n : Nat) (a0_0c : Option Nat) (a0_0 : List D) : Option D :=
 Zrk m m (0 : Int) a0_0n a0_0c a0_0 [(D.list 0 (some 0) [])]
theorem Z1mi (m : Nat) (a0_0n : Nat) (a0_0c : Option Nat) (a0_0 : List D) : funD Tg Z2r m 4 Z1o Tryz.f11 [(D.agg [(D.list a0_0n a0_0c a0_0)])] = Z1ij m a0_0n a0_0c a0_0 := by kernel_rfl
theorem Z1se : Enters Tg 11 := ⟨Tryz.f11,Tryz.func11,by kernel_rfl,by kernel_rfl⟩
theorem Z1sf {ds : List D} {d : D} (h : funD Tg Z2r M 4 Z1o Tryz.f11 ds = some d) : DataSem Tg 11 ds d := Z5 (H := Z2r) (SpOk.cons Z17w (SpOk.cons Z1es (SpOk.cons Z1ii (SpOk.cons Z1ux (SpOk.cons Z1ov SpOk.nil))))) mixed InlOk.nil Tryz.func11 Z1se h
noncomputable def Z16 : List D → Option D
 | [.agg [.list a0_0n a0_0c a0_0]] => Z1ij M a0_0n a0_0c a0_0
 | _ => none
theorem Z13y : ∀ ds d,Z16 ds = some d → DataSem Tg 11 ds d := by
 intro ds d h
 unfold Z16 at h
 split at h
 ·exact Z1sf ((Z1mi M _ _ _).trans h)
 ·cases h
end Go.Ev