/- Functions of the given program in plain form,printed: each with the proof that it is what the evaluator comes to,and that the program function returns what it says. No conditions. -/
import Derived.Test.YthakkigkdhaihaaGreatDoorEzG1
set_option linter.unusedVariables false
set_option maxRecDepth 100000
namespace Go.Ev
open Go Go.Proofs
def Zhg : FnH := ⟨[],[]⟩
noncomputable def Zv4 : Hints := ⟨[],[],[]⟩
noncomputable def Z149 (m : Nat)  : Option D :=
 some (D.agg [(D.v (.int .u8 (5 : Int))),(D.v (.int .u32 (2 : Int))),(D.v (.int .u32 (5 : Int))),(D.v (.int .u32 (29 : Int))),(D.v (.int .u32 (32 : Int))),zU,zU,zU,zU,zU,zU,zU,zU,zU,zU,zU,zU])
theorem Z15k (m : Nat)  : funD Tg Zv4 m 4 Zhg Tryz.f57 [] = Z149 m  := by kernel_rfl
theorem Z1b7 : Enters Tg 57 := ⟨Tryz.f57,Tryz.func57,by kernel_rfl,by kernel_rfl⟩
theorem Z1b8 {ds : List D} {d : D} (h : funD Tg Zv4 M 4 Zhg Tryz.f57 ds = some d) : DataSem Tg 57 ds d := Zo (H := Zv4) SpOk.nil mixed InlOk.nil Tryz.func57 Z1b7 h
noncomputable def Z8i : List D → Option D
 | [] => Z149 M 
 | _ => none
theorem Z10h : ∀ ds d,Z8i ds = some d → DataSem Tg 57 ds d := by
 intro ds d h
 unfold Z8i at h
 split at h
 ·exact Z1b8 ((Z15k M ).trans h)
 ·cases h
def Z9m : FnH := ⟨[],[]⟩
noncomputable def Zo6 : Hints := ⟨[(57,Z8i)],[],[]⟩
noncomputable def Zj1 (m : Nat) (a0 : Int) : Option D :=
 cond ((Int.tmod a0 (7 : Int)) == (6 : Int))
 ((Z8i []).bind fun d1 =>
 (rdA (some d1)).bind fun c2 =>
 if (List.length c2) = 17 then
 some (D.agg c2)
 else none)
 (some (D.agg [(D.v (.int .u8 (3 : Int))),(D.v (.int .u32 (1 : Int))),(D.v (.int .u32 (2 : Int))),(D.v (.int .u32 (IntKind.wrap .u32 ((3 : Int) + (IntKind.wrap .u32 (Int.tmod a0 (7 : Int))))))),zU,zU,zU,zU,zU,zU,zU,zU,zU,zU,zU,zU,zU]))
theorem Zz9 (m : Nat) (a0 : Int) : funD Tg Zo6 m 4 Z9m Tryz.f56 [(D.v (.int .u8 a0))] = Zj1 m a0 := by kernel_rfl
theorem Z14a : Enters Tg 56 := ⟨Tryz.f56,Tryz.func56,by kernel_rfl,by kernel_rfl⟩
theorem Z14b {ds : List D} {d : D} (h : funD Tg Zo6 M 4 Z9m Tryz.f56 ds = some d) : DataSem Tg 56 ds d := Zo (H := Zo6) (SpOk.cons Z10h SpOk.nil) mixed InlOk.nil Tryz.func56 Z14a h
noncomputable def Z4g : List D → Option D
 | [.v (.int .u8 a0)] => Zj1 M a0
 | _ => none
theorem Zt4 : ∀ ds d,Z4g ds = some d → DataSem Tg 56 ds d := by
 intro ds d h
 unfold Z4g at h
 split at h
 ·exact Z14b ((Zz9 M _).trans h)
 ·cases h
def Zcq : FnH := ⟨[],[]⟩
noncomputable def Zqd : Hints := ⟨[],[],[]⟩
noncomputable def Zl0 (m : Nat) (a0 : Int) : Option D :=
 cond ((Int.tmod a0 (4 : Int)) == (1 : Int))
 (some (D.list 1 (some 1) [(D.v (.int .u8 (1 : Int))),(D.v (.string (ByteArray.mk #[104,116,116,112,58,47,47,97]))),(D.v (.bool false)),zU,(D.v (.string (ByteArray.mk #[]))),(D.list 0 (some 0) []),(D.v (.bool false)),zU,(D.v (.string (ByteArray.mk #[]))),(D.v (.int .u8 (0 : Int))),zU,zU,zU,zU,zU,zU,zU,zU,zU,zU,zU,zU,zU,zU,zU,zU,(D.list 0 (some 0) [])]))
 (cond ((Int.tmod a0 (4 : Int)) == (2 : Int))
 (some (D.list 1 (some 1) [(D.v (.int .u8 (2 : Int))),(D.v (.string (ByteArray.mk #[]))),(D.v (.bool false)),zU,(D.v (.string (ByteArray.mk #[]))),(D.list 0 (some 0) []),(D.v (.bool true)),(D.v (.int .u32 (12 : Int))),(D.v (.string (ByteArray.mk #[98]))),(D.v (.int .u8 (0 : Int))),zU,zU,zU,zU,zU,zU,zU,zU,zU,zU,zU,zU,zU,zU,zU,zU,(D.list 0 (some 0) [])]))
 (cond ((Int.tmod a0 (4 : Int)) == (3 : Int))
 (some (D.list 2 (some 2) [(D.v (.int .u8 (2 : Int))),(D.v (.string (ByteArray.mk #[]))),(D.v (.bool false)),zU,(D.v (.string (ByteArray.mk #[]))),(D.list 0 (some 0) []),(D.v (.bool true)),(D.v (.int .u32 (12 : Int))),(D.v (.string (ByteArray.mk #[98]))),(D.v (.int .u8 (0 : Int))),zU,zU,zU,zU,zU,zU,zU,zU,zU,zU,zU,zU,zU,zU,zU,zU,(D.list 0 (some 0) []),(D.v (.int .u8 (1 : Int))),(D.v (.string (ByteArray.mk #[104,116,116,112,58,47,47,97]))),(D.v (.bool false)),zU,(D.v (.string (ByteArray.mk #[]))),(D.list 0 (some 0) []),(D.v (.bool false)),zU,(D.v (.string (ByteArray.mk #[]))),(D.v (.int .u8 (0 : Int))),zU,zU,zU,zU,zU,zU,zU,zU,zU,zU,zU,zU,zU,zU,zU,zU,(D.list 0 (some 0) [])]))
 (some (D.list 0 (some 0) []))))
theorem Z11l (m : Nat) (a0 : Int) : funD Tg Zqd m 4 Zcq Tryz.f75 [(D.v (.int .u8 a0))] = Zl0 m a0 := by kernel_rfl
theorem Z15l : Enters Tg 75 := ⟨Tryz.f75,Tryz.func75,by kernel_rfl,by kernel_rfl⟩
theorem Z15m {ds : List D} {d : D} (h : funD Tg Zqd M 4 Zcq Tryz.f75 ds = some d) : DataSem Tg 75 ds d := Zo (H := Zqd) SpOk.nil mixed InlOk.nil Tryz.func75 Z15l h
noncomputable def Zel : List D → Option D
 | [.v (.int .u8 a0)] => Zl0 M a0
 | _ => none
theorem Z15n : ∀ ds d,Zel ds = some d → DataSem Tg 75 ds d := by
 intro ds d h
 unfold Zel at h
 split at h
 ·exact Z15m ((Z11l M _).trans h)
 ·cases h
def Zcr : FnH := ⟨[],[]⟩
noncomputable def Zqe : Hints := ⟨[],[],[]⟩
noncomputable def Zl1 (m : Nat) (a0 : Int) : Option D :=
 some (D.v (.int .i64 (IntKind.wrap .i64 ((IntKind.wrap .i64 (Int.tmod a0 (8 : Int))) - (1 : Int)))))
theorem Z11m (m : Nat) (a0 : Int) : funD Tg Zqe m 4 Zcr Tryz.f73 [(D.v (.int .u8 a0))] = Zl1 m a0 := by kernel_rfl
theorem Z15o : Enters Tg 73 := ⟨Tryz.f73,Tryz.func73,by kernel_rfl,by kernel_rfl⟩
theorem Z15p {ds : List D} {d : D} (h : funD Tg Zqe M 4 Zcr Tryz.f73 ds = some d) : DataSem Tg 73 ds d := Zo (H := Zqe) SpOk.nil mixed InlOk.nil Tryz.func73 Z15o h
noncomputable def Z6r : List D → Option D
 | [.v (.int .u8 a0)] => Zl1 M a0
 | _ => none
theorem Z15q : ∀ ds d,Z6r ds = some d → DataSem Tg 73 ds d := by
 intro ds d h
 unfold Z6r at h
 split at h
 ·exact Z15p ((Z11m M _).trans h)
 ·cases h
theorem Zv5 : Enters Tg 74 := ⟨Tryz.f74,Tryz.func74,by kernel_rfl,by kernel_rfl⟩
def Z1v : FnH := ⟨[(4,⟨(bm 233 49),[(5,17)],(some 2),none⟩)],[(8,⟨(bm 233 49),[],(some 2),none⟩),(11,⟨(bm 233 49),[],(some 3),none⟩)]⟩
noncomputable def Z36 : Hints := ⟨[(78,Z9e)],[],[]⟩
noncomputable def Zhh (m n0 : Nat) (Z2h : Nat) (Z3b : Option Nat) (Z25 : List D) (Z2p : Nat) (Z1q : Int) (Z48 : Int) (Z49 : List D) (Z4p : Nat) (Z57 : List D) : Option D :=
 Z26 (bm 233 49) 0 2 (codeK Tg Z36.sp ⟨0,[],false,[]⟩ (inlK Tg Z36 m 4) m Z1v (subc [1,1,1,0,1,0,0] (bodyOf Tryz.f80))) n0 ⟨[(AV.d (D.list Z2h Z3b Z25)),Jk,Jk,(AV.ptr 0 0),Jk,(AV.sl 1 0 Z2p none 17),(AV.d (D.v (.int .i64 Z1q))),(AV.d (D.v (.int .i64 Z48))),Jk,Jk,Jk,Jk,Jk,Jk,Jk,Jk,Jk,Jk,Jk,Jk,Jk,Jk,Jk,Jk,Jk,Jk,Jk,Jk,Jk,Jk,Jk,Jk,Jk,Jk,Jk,Jk,Jk,Jk,Jk,Jk,Jk,Jk,Jk,Jk,Jk,Jk,Jk,Jk,Jk],[(Blk.d 17 Z49),(Blk.d Z4p Z57)]⟩
  (contK Tg Z36.sp ⟨0,[],false,[]⟩ (inlK Tg Z36 m 4) m Z1v (endK Tg Tryz.f80 endV) [.block 0,.code (subc [1,1,1,1] (bodyOf Tryz.f80))])
noncomputable def Zj2 (m n0 : Nat) (Z3v : Nat) (Z4x : Option Nat) (Z44 : List D) (Z5s : Nat) (Z5q : Int) (Z81 : Int) (Z6g : List D) (Z8e : Nat) (Z6y : List D) : Option D :=
 cutK m (codeK Tg Z36.sp ⟨0,[],false,[]⟩ (inlK Tg Z36 m 4) m Z1v (subc [1,1,1,0,1,0,0,1,0,0,1] (bodyOf Tryz.f80)) ⟨[(AV.d (D.list Z3v Z4x Z44)),Jk,Jk,(AV.ptr 0 0),Jk,(AV.sl 1 0 Z5s none 17),(AV.d (D.v (.int .i64 Z5q))),(AV.d (D.v (.int .i64 Z81))),Jk,Jk,Jk,Jk,Jk,Jk,Jk,Jk,Jk,Jk,Jk,Jk,Jk,Jk,Jk,Jk,Jk,Jk,Jk,Jk,Jk,Jk,Jk,Jk,Jk,Jk,Jk,Jk,Jk,Jk,Jk,Jk,Jk,Jk,Jk,Jk,Jk,Jk,Jk,Jk,Jk],[(Blk.d 17 Z6g),(Blk.d Z8e Z6y)]⟩
  (contK Tg Z36.sp ⟨0,[],false,[]⟩ (inlK Tg Z36 m 4) m Z1v (endK Tg Tryz.f80 endV) [.block 1,.code (subc [1,1,1,0,1,0,0,1,1] (bodyOf Tryz.f80)),.loop (bm 233 49) 2 (subc [1,1,1,0,1,0,0] (bodyOf Tryz.f80)) n0,.block 0,.code (subc [1,1,1,1] (bodyOf Tryz.f80))]))
noncomputable def Zt5 (m n0 : Nat) (Zfi : Nat) (Zjz : Option Nat) (Zkq : List D) (Zlm : Nat) (Zne : Int) (Zk0 : Int) (Zm8 : List D) (Znf : Nat) (Zmd : List D) (Zpk : List D) : Option D :=
 cutK m (codeK Tg Z36.sp ⟨0,[],false,[]⟩ (inlK Tg Z36 m 4) m Z1v (subc [1,1,1,0,1,0,0,1,0,0,1,1] (bodyOf Tryz.f80)) ⟨[(AV.d (D.list Zfi Zjz Zkq)),Jk,Jk,(AV.ptr 0 0),Jk,(AV.sl 1 0 Zlm none 17),(AV.d (D.v (.int .i64 Zne))),(AV.d (D.v (.int .i64 Zk0))),Jk,Jk,Jk,Jk,Jk,Jk,Jk,Jk,Jk,Jk,Jk,Jk,Jk,Jk,Jk,Jk,Jk,Jk,Jk,Jk,Jk,Jk,Jk,Jk,Jk,Jk,Jk,Jk,Jk,Jk,Jk,Jk,Jk,Jk,Jk,Jk,Jk,Jk,Jk,Jk,Jk],[(Blk.d 17 Zm8),(Blk.d Znf Zmd),(Blk.d 17 Zpk)]⟩
  (contK Tg Z36.sp ⟨0,[],false,[]⟩ (inlK Tg Z36 m 4) m Z1v (endK Tg Tryz.f80 endV) [.block 1,.code (subc [1,1,1,0,1,0,0,1,1] (bodyOf Tryz.f80)),.loop (bm 233 49) 2 (subc [1,1,1,0,1,0,0] (bodyOf Tryz.f80)) n0,.block 0,.code (subc [1,1,1,1] (bodyOf Tryz.f80))]))
theorem Zza (m n0 : Nat) (Zfi : Nat) (Zjz : Option Nat) (Zkq : List D) (Zlm : Nat) (Zne : Int) (Zk0 : Int) (Zm8 : List D) (Znf : Nat) (Zmd : List D) (Zpk : List D) : Zt5 m n0 Zfi Zjz Zkq Zlm Zne Zk0 Zm8 Znf Zmd Zpk =
 (if 0 ≤ Zk0 ∧ Zk0 < (Zfi : Int) then
 if (((Int.toNat Zk0) * 17) + 17) ≤ (List.length Zkq) then
 if (List.length ((List.drop ((Int.toNat Zk0) * 17) Zkq).take 17)) = 17 then
 if ownB ⟨0,[],false,[]⟩ 1 = true ∧ Znf = (Zlm * 17) ∧ Z4y (Zlm + 1) 68 ∧ (List.length ((List.drop ((Int.toNat Zk0) * 17) Zkq).take 17)) = 17 then
 Zhh m n0 Zfi Zjz Zkq (Zlm + 1) Zne (IntKind.wrap .i64 (Zk0 + (1 : Int))) Zm8 ((Zlm + 1) * 17) (Zmd ++ ((List.drop ((Int.toNat Zk0) * 17) Zkq).take 17))
 else none
 else none
 else none
 else none) := (Z12 m _).trans (by kernel_rfl)
noncomputable def Zdp (m n0 : Nat) (Zo3 : Nat) (Zme : Option Nat) (Zoa : List D) (Zox : Nat) (Zsv : Int) (Znh : Int) (Zsw : List D) (Zsx : Nat) (Zsy : List D) : Option D :=
 cutK m (codeK Tg Z36.sp ⟨0,[],false,[]⟩ (inlK Tg Z36 m 4) m Z1v (subc [1,1,1,0,1,0,0,1,0,0,1,1] (bodyOf Tryz.f80)) ⟨[(AV.d (D.list Zo3 Zme Zoa)),Jk,Jk,(AV.ptr 0 0),Jk,(AV.sl 1 0 Zox none 17),(AV.d (D.v (.int .i64 Zsv))),(AV.d (D.v (.int .i64 Znh))),Jk,Jk,Jk,Jk,Jk,Jk,Jk,Jk,Jk,Jk,Jk,Jk,Jk,Jk,Jk,Jk,Jk,Jk,Jk,Jk,Jk,Jk,Jk,Jk,Jk,Jk,Jk,Jk,Jk,Jk,Jk,Jk,Jk,Jk,Jk,Jk,Jk,Jk,Jk,Jk,Jk],[(Blk.d 17 Zsw),(Blk.d Zsx Zsy)]⟩
  (contK Tg Z36.sp ⟨0,[],false,[]⟩ (inlK Tg Z36 m 4) m Z1v (endK Tg Tryz.f80 endV) [.block 1,.code (subc [1,1,1,0,1,0,0,1,1] (bodyOf Tryz.f80)),.loop (bm 233 49) 2 (subc [1,1,1,0,1,0,0] (bodyOf Tryz.f80)) n0,.block 0,.code (subc [1,1,1,1] (bodyOf Tryz.f80))]))
theorem Zm0 (m n0 : Nat) (Zo3 : Nat) (Zme : Option Nat) (Zoa : List D) (Zox : Nat) (Zsv : Int) (Znh : Int) (Zsw : List D) (Zsx : Nat) (Zsy : List D) : Zdp m n0 Zo3 Zme Zoa Zox Zsv Znh Zsw Zsx Zsy =
 (if 0 ≤ Znh ∧ Znh < (Zo3 : Int) then
 if (((Int.toNat Znh) * 17) + 17) ≤ (List.length Zoa) then
 if (List.length ((List.drop ((Int.toNat Znh) * 17) Zoa).take 17)) = 17 then
 if ownB ⟨0,[],false,[]⟩ 1 = true ∧ Zsx = (Zox * 17) ∧ Z4y (Zox + 1) 68 ∧ (List.length ((List.drop ((Int.toNat Znh) * 17) Zoa).take 17)) = 17 then
 Zhh m n0 Zo3 Zme Zoa (Zox + 1) Zsv (IntKind.wrap .i64 (Znh + (1 : Int))) Zsw ((Zox + 1) * 17) (Zsy ++ ((List.drop ((Int.toNat Znh) * 17) Zoa).take 17))
 else none
 else none
 else none
 else none) := (Z12 m _).trans (by kernel_rfl)
theorem Z11n (m n0 : Nat) (Z3v : Nat) (Z4x : Option Nat) (Z44 : List D) (Z5s : Nat) (Z5q : Int) (Z81 : Int) (Z6g : List D) (Z8e : Nat) (Z6y : List D) : Zj2 m n0 Z3v Z4x Z44 Z5s Z5q Z81 Z6g Z8e Z6y =
 (cond (Z5q == (0 : Int))
 (if 0 ≤ Z81 ∧ Z81 < (Z3v : Int) then
 if (((Int.toNat Z81) * 17) + 17) ≤ (List.length Z44) then
 (Z9e [(D.agg Z6g),(D.agg ((List.drop ((Int.toNat Z81) * 17) Z44).take 17))]).bind fun d8 =>
 (rdI .i64 (some d8)).bind fun x9 =>
 cond (decide (x9 < (0 : Int)))
 (if (List.length Z6g) = 17 then
 if ownB ⟨0,[],false,[]⟩ 1 = true ∧ Z8e = (Z5s * 17) ∧ Z4y (Z5s + 1) 68 ∧ (List.length Z6g) = 17 then
 Zt5 m n0 Z3v Z4x Z44 (Z5s + 1) (1 : Int) Z81 Z6g ((Z5s + 1) * 17) (Z6y ++ Z6g) Z6g
 else none
 else none)
 (Zdp m n0 Z3v Z4x Z44 Z5s Z5q Z81 Z6g Z8e Z6y)
 else none
 else none)
 (Zdp m n0 Z3v Z4x Z44 Z5s Z5q Z81 Z6g Z8e Z6y)) := (Z12 m _).trans (by kernel_rfl)
theorem Z14c (m n0 : Nat) (Z2h : Nat) (Z3b : Option Nat) (Z25 : List D) (Z2p : Nat) (Z1q : Int) (Z48 : Int) (Z49 : List D) (Z4p : Nat) (Z57 : List D) : Zhh m (n0 + 1) Z2h Z3b Z25 Z2p Z1q Z48 Z49 Z4p Z57 =
 (cond (decide (Z48 < (Z2h : Int)))
 (if 0 ≤ Z48 ∧ Z48 < (Z2h : Int) then
 if (((Int.toNat Z48) * 17) + 17) ≤ (List.length Z25) then
 (cellsEq [.int,.int,.int,.int,.int,.int,.int,.int,.int,.int,.int,.int,.int,.int,.int,.int,.int] ((List.drop ((Int.toNat Z48) * 17) Z25).take 17) Z49).bind fun b7 =>
 cond b7
 (Zj2 m n0 Z2h Z3b Z25 Z2p (1 : Int) Z48 Z49 Z4p Z57)
 (Zj2 m n0 Z2h Z3b Z25 Z2p Z1q Z48 Z49 Z4p Z57)
 else none
 else none)
 (cond (Z1q == (0 : Int))
 (if (List.length Z49) = 17 then
 if ownB ⟨0,[],false,[]⟩ 1 = true ∧ Z4p = (Z2p * 17) ∧ Z4y (Z2p + 1) 68 ∧ (List.length Z49) = 17 then
 if (0 + ((Z2p + 1) * 17)) ≤ ((Z2p + 1) * 17) then
 some (D.list (Z2p + 1) none (cutL ((Z2p + 1) * 17) (Z57 ++ Z49) 0 ((Z2p + 1) * 17)))
 else none
 else none
 else none)
 (if (0 + (Z2p * 17)) ≤ Z4p then
 some (D.list Z2p none (cutL Z4p Z57 0 (Z2p * 17)))
 else none))) := by kernel_rfl
noncomputable def Zqf (m : Nat) (a0n : Nat) (a0c : Option Nat) (a0 : List D) (a1 : List D) : Option D :=
 if (List.length a1) = 17 then
 Zhh m m a0n a0c a0 0 (0 : Int) (0 : Int) a1 0 []
 else none
theorem Z15r (m : Nat) (a0n : Nat) (a0c : Option Nat) (a0 : List D) (a1 : List D) : funD Tg Z36 m 4 Z1v Tryz.f80 [(D.list a0n a0c a0),(D.agg a1)] = Zqf m a0n a0c a0 a1 := by kernel_rfl
theorem Z1b9 : Enters Tg 80 := ⟨Tryz.f80,Tryz.func80,by kernel_rfl,by kernel_rfl⟩
theorem Z1ba {ds : List D} {d : D} (h : funD Tg Z36 M 4 Z1v Tryz.f80 ds = some d) : DataSem Tg 80 ds d := Zo (H := Z36) (SpOk.cons Z10v SpOk.nil) mixed InlOk.nil Tryz.func80 Z1b9 h
noncomputable def Zk3 : List D → Option D
 | [.list a0n a0c a0,.agg a1] => Zqf M a0n a0c a0 a1
 | _ => none
theorem Z1bb : ∀ ds d,Zk3 ds = some d → DataSem Tg 80 ds d := by
 intro ds d h
 unfold Zk3 at h
 split at h
 ·exact Z1ba ((Z15r M _ _ _ _).trans h)
 ·cases h
def Zb : FnH := ⟨[(3,⟨(bm 30 148),[(1002002,18)],(some 4),none⟩),(10,⟨(bm 270 148),[(1002004,34)],(some 5),none⟩),(19,⟨(bm 3854 148),[],(some 6),none⟩)],[(5,⟨(bm 30 148),[],(some 4),none⟩),(4,⟨(bm 30 148),[],(some 7),none⟩),(9,⟨(bm 14 148),[],(some 4),none⟩),(12,⟨(bm 270 148),[],(some 5),none⟩),(15,⟨(bm 782 148),[],(some 6),none⟩),(17,⟨(bm 782 148),[],(some 6),none⟩),(20,⟨(bm 3854 148),[],(some 6),none⟩),(11,⟨(bm 270 148),[],(some 7),none⟩),(25,⟨(bm 12 148),[],(some 5),none⟩)]⟩
def Z4t : FnH := ⟨[(2,⟨(bm 76 28),[],(some 2),none⟩)],[]⟩
noncomputable def Zd : Hints := ⟨[(56,Z4g),(57,Z8i),(73,Z6r),(75,Zel)],[(74,Tryz.f74,Z4t)],[]⟩
noncomputable def Z9p (m n0 : Nat) (Z2h : Int) (Z3b : Int) (Z25 : Nat) (Z2p : Option Nat) (Z1q : List D) (Z48 : Nat) (Z49 : Option Nat) (Z4p : List D) (Z57 : Int) (Z6o : Int) (Z2l : Int) (Z2k : Bool) (Z3o : Bool) (Z3y : Bool) (Z45 : Int) (Zkk : Int) (Zm1 : Int) (Zm2 : Bool) (Zv6 : Bool) (Zzb : Nat) (Zv7 : Bool) (Zv8 : Int) (Z18h : Int) (Z18i : Int) (Z1e7 : Nat) (Z1e8 : List D) : Option D :=
 Z26 (bm 30 148) 0 4 (codeK Tg Zd.sp ⟨0,[],false,[]⟩ (inlK Tg Zd m 4) m Zb (subc [1,1,0,1,0,0] (bodyOf Tryz.f19))) n0 ⟨[Jk,(AV.ptr 0 0),(AV.ptr 1 0),(AV.ptr 2 0),(AV.d (D.v (.int .i64 Z2h))),Jk,Jk,Jk,Jk,Jk,Jk,Jk,Jk,Jk,Jk,Jk,Jk,Jk,Jk,Jk,Jk,Jk,Jk,Jk,Jk,Jk,Jk,Jk,Jk,Jk,Jk,Jk,Jk,Jk,Jk,Jk,Jk,Jk,Jk,Jk,Jk,Jk,Jk,Jk,Jk,Jk,Jk,Jk,Jk,Jk,Jk,Jk,Jk,Jk,Jk,Jk,Jk,Jk,Jk,Jk,Jk,Jk,Jk,Jk,Jk,Jk,Jk,Jk,Jk,Jk,Jk,Jk,Jk,Jk,Jk,Jk,Jk,Jk,Jk,Jk,Jk,Jk,Jk,Jk,Jk,Jk,Jk,Jk,Jk,Jk,Jk,Jk,Jk,Jk,Jk,Jk,Jk,Jk,Jk,Jk,Jk,Jk,Jk,Jk,Jk,Jk,Jk,Jk,Jk,Jk,Jk,Jk,Jk,Jk,Jk,Jk,Jk,Jk,Jk,Jk,Jk,Jk,Jk,Jk,Jk,Jk,Jk,Jk,Jk,Jk,Jk,Jk,Jk,Jk,Jk,Jk,Jk,Jk,Jk,Jk,Jk,Jk,Jk,Jk,Jk,Jk,Jk,Jk],[(Blk.d 6 [(D.v (.int .u8 Z3b)),(D.list Z25 Z2p Z1q),(D.list Z48 Z49 Z4p),(D.v (.int .u8 Z57)),(D.v (.int .u8 Z6o)),(D.v (.int .u8 Z2l))]),(Blk.d 8 [(D.v (.bool Z2k)),(D.v (.bool Z3o)),(D.list 0 (some 0) []),(D.v (.bool Z3y)),(D.list 0 (some 0) []),(D.v (.int .i64 Z45)),(D.v (.int .i64 Zkk)),(D.v (.int .i64 Zm1))]),(Blk.a 8 [(AV.d (D.v (.bool Zm2))),(AV.d (D.v (.bool Zv6))),(AV.sl 3 0 Zzb none 18),(AV.d (D.v (.bool Zv7))),(AV.d (D.list 0 (some 0) [])),(AV.d (D.v (.int .i64 Zv8))),(AV.d (D.v (.int .i64 Z18h))),(AV.d (D.v (.int .i64 Z18i)))]),(Blk.d Z1e7 Z1e8)]⟩
  (contK Tg Zd.sp ⟨0,[],false,[]⟩ (inlK Tg Zd m 4) m Zb (endK Tg Tryz.f19 endV) [.block 0,.code (subc [1,1,1] (bodyOf Tryz.f19))])
noncomputable def Zt6 (m n0 : Nat) (Z3v : Int) (Z4x : Int) (Z44 : Nat) (Z5s : Option Nat) (Z5q : List D) (Z81 : Nat) (Z6g : Option Nat) (Z8e : List D) (Z6y : Int) (Ze7 : Int) (Z5i : Int) (Z56 : Bool) (Zkv : Bool) (Zkc : Bool) (Zkw : Int) (Zkx : Int) (Zq6 : Int) (Zhw : Bool) (Zln : Bool) (Ztu : Nat) (Z11o : Bool) (Z11p : Int) (Z11q : Int) (Z11r : Int) (Z1il : Nat) (Z1im : List D) : Option D :=
 cutK m (codeK Tg Zd.sp ⟨0,[],false,[]⟩ (inlK Tg Zd m 4) m Zb (subc [1,1,0,1,0,0,1] (bodyOf Tryz.f19)) ⟨[Jk,(AV.ptr 0 0),(AV.ptr 1 0),(AV.ptr 2 0),(AV.d (D.v (.int .i64 Z3v))),Jk,Jk,Jk,Jk,Jk,Jk,Jk,Jk,Jk,Jk,Jk,Jk,Jk,Jk,Jk,Jk,Jk,Jk,Jk,Jk,Jk,Jk,Jk,Jk,Jk,Jk,Jk,Jk,Jk,Jk,Jk,Jk,Jk,Jk,Jk,Jk,Jk,Jk,Jk,Jk,Jk,Jk,Jk,Jk,Jk,Jk,Jk,Jk,Jk,Jk,Jk,Jk,Jk,Jk,Jk,Jk,Jk,Jk,Jk,Jk,Jk,Jk,Jk,Jk,Jk,Jk,Jk,Jk,Jk,Jk,Jk,Jk,Jk,Jk,Jk,Jk,Jk,Jk,Jk,Jk,Jk,Jk,Jk,Jk,Jk,Jk,Jk,Jk,Jk,Jk,Jk,Jk,Jk,Jk,Jk,Jk,Jk,Jk,Jk,Jk,Jk,Jk,Jk,Jk,Jk,Jk,Jk,Jk,Jk,Jk,Jk,Jk,Jk,Jk,Jk,Jk,Jk,Jk,Jk,Jk,Jk,Jk,Jk,Jk,Jk,Jk,Jk,Jk,Jk,Jk,Jk,Jk,Jk,Jk,Jk,Jk,Jk,Jk,Jk,Jk,Jk,Jk,Jk],[(Blk.d 6 [(D.v (.int .u8 Z4x)),(D.list Z44 Z5s Z5q),(D.list Z81 Z6g Z8e),(D.v (.int .u8 Z6y)),(D.v (.int .u8 Ze7)),(D.v (.int .u8 Z5i))]),(Blk.d 8 [(D.v (.bool Z56)),(D.v (.bool Zkv)),(D.list 0 (some 0) []),(D.v (.bool Zkc)),(D.list 0 (some 0) []),(D.v (.int .i64 Zkw)),(D.v (.int .i64 Zkx)),(D.v (.int .i64 Zq6))]),(Blk.a 8 [(AV.d (D.v (.bool Zhw))),(AV.d (D.v (.bool Zln))),(AV.sl 3 0 Ztu none 18),(AV.d (D.v (.bool Z11o))),(AV.d (D.list 0 (some 0) [])),(AV.d (D.v (.int .i64 Z11p))),(AV.d (D.v (.int .i64 Z11q))),(AV.d (D.v (.int .i64 Z11r)))]),(Blk.d Z1il Z1im)]⟩
  (contK Tg Zd.sp ⟨0,[],false,[]⟩ (inlK Tg Zd m 4) m Zb (endK Tg Tryz.f19 endV) [.loop (bm 30 148) 4 (subc [1,1,0,1,0,0] (bodyOf Tryz.f19)) n0,.block 0,.code (subc [1,1,1] (bodyOf Tryz.f19))]))
noncomputable def Z3u (m n0 n1 : Nat) (Z3v : Int) (Z44 : Nat) (Z5s : Option Nat) (Z5q : List D) (x31 : Int) (c33 : List D) (Zhw : Bool) (Zln : Bool) (Ztu : Nat) (Z11o : Bool) (Z11p : Int) (Z11q : Int) (Z11r : Int) (Zft : Int) (Zij : Int) (Zg7 : Nat) (Zk9 : Option Nat) (Zhu : List D) (Zrl : Nat) (Zo2 : Option Nat) (Zr8 : List D) (Zng : Int) (Zvc : Int) (Zh3 : Int) (Zhv : Bool) (Zk1 : Bool) (Zh4 : Bool) (Zl2 : Int) (Zhi : Int) (Zi1 : Int) (Zg6 : Bool) (Zqg : Bool) (Zpd : Nat) (Zqh : Bool) (Zrc : Int) (Zpe : Int) (Z11s : Int) (Z1bc : Nat) (Z1bd : List D) (Zv9 : List D) : Option D :=
 Z26 (bm 76 28) 5 7 (codeK Tg Zd.sp ⟨5,[],true,[]⟩ (inlK Tg Zd m 3) m Z4t (subc [1,0,1,0,0] (bodyOf Tryz.f74))) n1 ⟨[Jk,Jk,(AV.ptr 5 0),(AV.ptr 6 0),Jk,Jk,(AV.d (D.v (.int .i64 Zft))),Jk,Jk,Jk,Jk,Jk,Jk,Jk,Jk,Jk,Jk,Jk,Jk,Jk,Jk,Jk,Jk,Jk,Jk,Jk,Jk,Jk],[(Blk.d 6 [(D.v (.int .u8 Zij)),(D.list Zg7 Zk9 Zhu),(D.list Zrl Zo2 Zr8),(D.v (.int .u8 Zng)),(D.v (.int .u8 Zvc)),(D.v (.int .u8 Zh3))]),(Blk.d 8 [(D.v (.bool Zhv)),(D.v (.bool Zk1)),(D.list 0 (some 0) []),(D.v (.bool Zh4)),(D.list 0 (some 0) []),(D.v (.int .i64 Zl2)),(D.v (.int .i64 Zhi)),(D.v (.int .i64 Zi1))]),(Blk.a 8 [(AV.d (D.v (.bool Zg6))),(AV.d (D.v (.bool Zqg))),(AV.sl 3 0 Zpd none 18),(AV.d (D.v (.bool Zqh))),(AV.d (D.list 0 (some 0) [])),(AV.d (D.v (.int .i64 Zrc))),(AV.d (D.v (.int .i64 Zpe))),(AV.d (D.v (.int .i64 Z11s)))]),(Blk.d Z1bc Z1bd),(Blk.d 17 Zv9),(Blk.a 8 [(AV.d (D.v (.bool Zg6))),(AV.d (D.v (.bool Zqg))),(AV.sl 3 0 Zpd none 18),(AV.d (D.v (.bool Zqh))),(AV.d (D.list 0 (some 0) [])),(AV.d (D.v (.int .i64 Zrc))),(AV.d (D.v (.int .i64 Zpe))),(AV.d (D.v (.int .i64 Z11s)))]),(Blk.d 17 Zv9)]⟩
  (contK Tg Zd.sp ⟨5,[],true,[]⟩ (inlK Tg Zd m 3) m Z4t (endK Tg Tryz.f74 (fun v L => opsK Tg Zd.sp ⟨0,[],false,[]⟩ [] (inlK Tg Zd m 4) (regOps (subc [1,1,0,1,0,0,1,0,0,1,0] (bodyOf Tryz.f19))) (List.drop 3 (Array.toList (regOps (subc [1,1,0,1,0,0,1,0,0,1,0] (bodyOf Tryz.f19))))) ⟨setSl [Jk,(AV.ptr 0 0),(AV.ptr 1 0),(AV.ptr 2 0),(AV.d (D.v (.int .i64 Z3v))),(AV.ptr 4 0),Jk,Jk,Jk,Jk,Jk,Jk,Jk,Jk,Jk,Jk,Jk,Jk,Jk,Jk,Jk,Jk,Jk,Jk,Jk,Jk,Jk,Jk,Jk,Jk,Jk,Jk,Jk,Jk,Jk,Jk,Jk,Jk,Jk,Jk,Jk,Jk,(AV.ptr 0 1),(AV.d (D.list Z44 Z5s Z5q)),(AV.d (D.v (.int .i64 Z3v))),(AV.lp Z5q ((Int.toNat Z3v) * 1)),(AV.d (D.v (.int .u8 x31))),(AV.d (D.agg c33)),Jk,(AV.agg [(AV.d (D.v (.bool Zhw))),(AV.d (D.v (.bool Zln))),(AV.sl 3 0 Ztu none 18),(AV.d (D.v (.bool Z11o))),(AV.d (D.list 0 (some 0) [])),(AV.d (D.v (.int .i64 Z11p))),(AV.d (D.v (.int .i64 Z11q))),(AV.d (D.v (.int .i64 Z11r)))]),(AV.d (D.agg c33)),Jk,Jk,Jk,Jk,Jk,Jk,Jk,Jk,Jk,Jk,Jk,Jk,Jk,Jk,Jk,Jk,Jk,Jk,Jk,Jk,Jk,Jk,Jk,Jk,Jk,Jk,Jk,Jk,Jk,Jk,Jk,Jk,Jk,Jk,Jk,Jk,Jk,Jk,Jk,Jk,Jk,Jk,Jk,Jk,Jk,Jk,Jk,Jk,Jk,Jk,Jk,Jk,Jk,Jk,Jk,Jk,Jk,Jk,Jk,Jk,Jk,Jk,Jk,Jk,Jk,Jk,Jk,Jk,Jk,Jk,Jk,Jk,Jk,Jk,Jk,Jk,Jk,Jk,Jk,Jk,Jk,Jk,Jk,Jk,Jk,Jk,Jk,Jk,Jk,Jk,Jk,Jk,Jk,Jk,Jk,Jk,Jk] (some 51) v,L⟩ (fun st => contK Tg Zd.sp ⟨0,[],false,[]⟩ (inlK Tg Zd m 4) m Zb (endK Tg Tryz.f19 endV) [.code (subc [1,1,0,1,0,0,1,0,0,1,1] (bodyOf Tryz.f19)),.block 1,.code (subc [1,1,0,1,0,0,1,1] (bodyOf Tryz.f19)),.loop (bm 30 148) 4 (subc [1,1,0,1,0,0] (bodyOf Tryz.f19)) n0,.block 0,.code (subc [1,1,1] (bodyOf Tryz.f19))] .normal st))) [.block 0,.code (subc [1,1] (bodyOf Tryz.f74))])
noncomputable def Zt7 (m n0 : Nat) (Zfi : Int) (Zjz : Int) (Zkq : Nat) (Zlm : Option Nat) (Zne : List D) (Zk0 : Nat) (Zm8 : Option Nat) (Znf : List D) (Zmd : Int) (Zpk : Int) (Zbr : Int) (Zh1 : Bool) (Zos : Bool) (Zot : Bool) (Zou : Int) (Zov : Int) (Zow : Int) (Zq7 : Bool) (Zyk : Bool) (Z19t : Nat) (Z1in : Bool) (Z1io : Int) (Z1ip : Int) (Z1iq : Int) (Z1ir : Nat) (Z1is : List D) (Z1ms : List D) (Z1mt : Bool) (Z1mu : Bool) (Z1mv : Nat) (Z1mw : Bool) (Z1mx : Int) (Z1my : Int) (Z1mz : Int) (Z1n0 : List D) : Option D :=
 cutK m (codeK Tg Zd.sp ⟨0,[],false,[]⟩ (inlK Tg Zd m 4) m Zb (subc [1,1,0,1,0,0,1,1] (bodyOf Tryz.f19)) ⟨[Jk,(AV.ptr 0 0),(AV.ptr 1 0),(AV.ptr 2 0),(AV.d (D.v (.int .i64 Zfi))),Jk,Jk,Jk,Jk,Jk,Jk,Jk,Jk,Jk,Jk,Jk,Jk,Jk,Jk,Jk,Jk,Jk,Jk,Jk,Jk,Jk,Jk,Jk,Jk,Jk,Jk,Jk,Jk,Jk,Jk,Jk,Jk,Jk,Jk,Jk,Jk,Jk,Jk,Jk,Jk,Jk,Jk,Jk,Jk,Jk,Jk,Jk,Jk,Jk,Jk,Jk,Jk,Jk,Jk,Jk,Jk,Jk,Jk,Jk,Jk,Jk,Jk,Jk,Jk,Jk,Jk,Jk,Jk,Jk,Jk,Jk,Jk,Jk,Jk,Jk,Jk,Jk,Jk,Jk,Jk,Jk,Jk,Jk,Jk,Jk,Jk,Jk,Jk,Jk,Jk,Jk,Jk,Jk,Jk,Jk,Jk,Jk,Jk,Jk,Jk,Jk,Jk,Jk,Jk,Jk,Jk,Jk,Jk,Jk,Jk,Jk,Jk,Jk,Jk,Jk,Jk,Jk,Jk,Jk,Jk,Jk,Jk,Jk,Jk,Jk,Jk,Jk,Jk,Jk,Jk,Jk,Jk,Jk,Jk,Jk,Jk,Jk,Jk,Jk,Jk,Jk,Jk,Jk],[(Blk.d 6 [(D.v (.int .u8 Zjz)),(D.list Zkq Zlm Zne),(D.list Zk0 Zm8 Znf),(D.v (.int .u8 Zmd)),(D.v (.int .u8 Zpk)),(D.v (.int .u8 Zbr))]),(Blk.d 8 [(D.v (.bool Zh1)),(D.v (.bool Zos)),(D.list 0 (some 0) []),(D.v (.bool Zot)),(D.list 0 (some 0) []),(D.v (.int .i64 Zou)),(D.v (.int .i64 Zov)),(D.v (.int .i64 Zow))]),(Blk.a 8 [(AV.d (D.v (.bool Zq7))),(AV.d (D.v (.bool Zyk))),(AV.sl 3 0 Z19t none 18),(AV.d (D.v (.bool Z1in))),(AV.d (D.list 0 (some 0) [])),(AV.d (D.v (.int .i64 Z1io))),(AV.d (D.v (.int .i64 Z1ip))),(AV.d (D.v (.int .i64 Z1iq)))]),(Blk.d Z1ir Z1is),(Blk.d 17 Z1ms),(Blk.a 8 [(AV.d (D.v (.bool Z1mt))),(AV.d (D.v (.bool Z1mu))),(AV.sl 3 0 Z1mv none 18),(AV.d (D.v (.bool Z1mw))),(AV.d (D.list 0 (some 0) [])),(AV.d (D.v (.int .i64 Z1mx))),(AV.d (D.v (.int .i64 Z1my))),(AV.d (D.v (.int .i64 Z1mz)))]),(Blk.d 17 Z1n0)]⟩
  (contK Tg Zd.sp ⟨0,[],false,[]⟩ (inlK Tg Zd m 4) m Zb (endK Tg Tryz.f19 endV) [.loop (bm 30 148) 4 (subc [1,1,0,1,0,0] (bodyOf Tryz.f19)) n0,.block 0,.code (subc [1,1,1] (bodyOf Tryz.f19))]))
theorem Zzc (m n0 : Nat) (Zfi : Int) (Zjz : Int) (Zkq : Nat) (Zlm : Option Nat) (Zne : List D) (Zk0 : Nat) (Zm8 : Option Nat) (Znf : List D) (Zmd : Int) (Zpk : Int) (Zbr : Int) (Zh1 : Bool) (Zos : Bool) (Zot : Bool) (Zou : Int) (Zov : Int) (Zow : Int) (Zq7 : Bool) (Zyk : Bool) (Z19t : Nat) (Z1in : Bool) (Z1io : Int) (Z1ip : Int) (Z1iq : Int) (Z1ir : Nat) (Z1is : List D) (Z1ms : List D) (Z1mt : Bool) (Z1mu : Bool) (Z1mv : Nat) (Z1mw : Bool) (Z1mx : Int) (Z1my : Int) (Z1mz : Int) (Z1n0 : List D) : Zt7 m n0 Zfi Zjz Zkq Zlm Zne Zk0 Zm8 Znf Zmd Zpk Zbr Zh1 Zos Zot Zou Zov Zow Zq7 Zyk Z19t Z1in Z1io Z1ip Z1iq Z1ir Z1is Z1ms Z1mt Z1mu Z1mv Z1mw Z1mx Z1my Z1mz Z1n0 =
 (Z9p m n0 (IntKind.wrap .i64 (Zfi + (1 : Int))) Zjz Zkq Zlm Zne Zk0 Zm8 Znf Zmd Zpk Zbr Zh1 Zos Zot Zou Zov Zow Zq7 Zyk Z19t Z1in Z1io Z1ip Z1iq Z1ir Z1is) := (Z12 m _).trans (by kernel_rfl)
noncomputable def Zpf (m n0 : Nat) (Zo3 : Int) (Zme : Int) (Zoa : Nat) (Zox : Option Nat) (Zsv : List D) (Znh : Nat) (Zsw : Option Nat) (Zsx : List D) (Zsy : Int) (Zvd : Int) (Zg4 : Int) (Zoy : Bool) (Zlo : Bool) (Zoz : Bool) (Zp0 : Int) (Zp1 : Int) (Zp2 : Int) (Zp3 : Bool) (Z19u : Bool) (Z19v : Nat) (Z1it : Bool) (Z1iu : Int) (Z1iv : Int) (Z1iw : Int) (Z1ix : Nat) (Z1iy : List D) (Z1n1 : List D) (Z1n2 : Bool) (Z1n3 : Bool) (Z1n4 : Bool) (Z1n5 : Int) (Z1n6 : Int) (Z1n7 : Int) (Z1n8 : List D) : Option D :=
 cutK m (codeK Tg Zd.sp ⟨0,[],false,[]⟩ (inlK Tg Zd m 4) m Zb (subc [1,1,0,1,0,0,1,1] (bodyOf Tryz.f19)) ⟨[Jk,(AV.ptr 0 0),(AV.ptr 1 0),(AV.ptr 2 0),(AV.d (D.v (.int .i64 Zo3))),Jk,Jk,Jk,Jk,Jk,Jk,Jk,Jk,Jk,Jk,Jk,Jk,Jk,Jk,Jk,Jk,Jk,Jk,Jk,Jk,Jk,Jk,Jk,Jk,Jk,Jk,Jk,Jk,Jk,Jk,Jk,Jk,Jk,Jk,Jk,Jk,Jk,Jk,Jk,Jk,Jk,Jk,Jk,Jk,Jk,Jk,Jk,Jk,Jk,Jk,Jk,Jk,Jk,Jk,Jk,Jk,Jk,Jk,Jk,Jk,Jk,Jk,Jk,Jk,Jk,Jk,Jk,Jk,Jk,Jk,Jk,Jk,Jk,Jk,Jk,Jk,Jk,Jk,Jk,Jk,Jk,Jk,Jk,Jk,Jk,Jk,Jk,Jk,Jk,Jk,Jk,Jk,Jk,Jk,Jk,Jk,Jk,Jk,Jk,Jk,Jk,Jk,Jk,Jk,Jk,Jk,Jk,Jk,Jk,Jk,Jk,Jk,Jk,Jk,Jk,Jk,Jk,Jk,Jk,Jk,Jk,Jk,Jk,Jk,Jk,Jk,Jk,Jk,Jk,Jk,Jk,Jk,Jk,Jk,Jk,Jk,Jk,Jk,Jk,Jk,Jk,Jk,Jk],[(Blk.d 6 [(D.v (.int .u8 Zme)),(D.list Zoa Zox Zsv),(D.list Znh Zsw Zsx),(D.v (.int .u8 Zsy)),(D.v (.int .u8 Zvd)),(D.v (.int .u8 Zg4))]),(Blk.d 8 [(D.v (.bool Zoy)),(D.v (.bool Zlo)),(D.list 0 (some 0) []),(D.v (.bool Zoz)),(D.list 0 (some 0) []),(D.v (.int .i64 Zp0)),(D.v (.int .i64 Zp1)),(D.v (.int .i64 Zp2))]),(Blk.a 8 [(AV.d (D.v (.bool Zp3))),(AV.d (D.v (.bool Z19u))),(AV.sl 3 0 Z19v none 18),(AV.d (D.v (.bool Z1it))),(AV.d (D.list 0 (some 0) [])),(AV.d (D.v (.int .i64 Z1iu))),(AV.d (D.v (.int .i64 Z1iv))),(AV.d (D.v (.int .i64 Z1iw)))]),(Blk.d Z1ix Z1iy),(Blk.d 17 Z1n1),(Blk.a 8 [(AV.d (D.v (.bool Z1n2))),(AV.d (D.v (.bool Z1n3))),Jk,(AV.d (D.v (.bool Z1n4))),(AV.d (D.list 0 (some 0) [])),(AV.d (D.v (.int .i64 Z1n5))),(AV.d (D.v (.int .i64 Z1n6))),(AV.d (D.v (.int .i64 Z1n7)))]),(Blk.d 17 Z1n8)]⟩
  (contK Tg Zd.sp ⟨0,[],false,[]⟩ (inlK Tg Zd m 4) m Zb (endK Tg Tryz.f19 endV) [.loop (bm 30 148) 4 (subc [1,1,0,1,0,0] (bodyOf Tryz.f19)) n0,.block 0,.code (subc [1,1,1] (bodyOf Tryz.f19))]))
theorem Zva (m n0 : Nat) (Zo3 : Int) (Zme : Int) (Zoa : Nat) (Zox : Option Nat) (Zsv : List D) (Znh : Nat) (Zsw : Option Nat) (Zsx : List D) (Zsy : Int) (Zvd : Int) (Zg4 : Int) (Zoy : Bool) (Zlo : Bool) (Zoz : Bool) (Zp0 : Int) (Zp1 : Int) (Zp2 : Int) (Zp3 : Bool) (Z19u : Bool) (Z19v : Nat) (Z1it : Bool) (Z1iu : Int) (Z1iv : Int) (Z1iw : Int) (Z1ix : Nat) (Z1iy : List D) (Z1n1 : List D) (Z1n2 : Bool) (Z1n3 : Bool) (Z1n4 : Bool) (Z1n5 : Int) (Z1n6 : Int) (Z1n7 : Int) (Z1n8 : List D) : Zpf m n0 Zo3 Zme Zoa Zox Zsv Znh Zsw Zsx Zsy Zvd Zg4 Zoy Zlo Zoz Zp0 Zp1 Zp2 Zp3 Z19u Z19v Z1it Z1iu Z1iv Z1iw Z1ix Z1iy Z1n1 Z1n2 Z1n3 Z1n4 Z1n5 Z1n6 Z1n7 Z1n8 =
 (Z9p m n0 (IntKind.wrap .i64 (Zo3 + (1 : Int))) Zme Zoa Zox Zsv Znh Zsw Zsx Zsy Zvd Zg4 Zoy Zlo Zoz Zp0 Zp1 Zp2 Zp3 Z19u Z19v Z1it Z1iu Z1iv Z1iw Z1ix Z1iy) := (Z12 m _).trans (by kernel_rfl)
theorem Zhj (m n0 n1 : Nat) (Z3v : Int) (Z44 : Nat) (Z5s : Option Nat) (Z5q : List D) (x31 : Int) (c33 : List D) (Zhw : Bool) (Zln : Bool) (Ztu : Nat) (Z11o : Bool) (Z11p : Int) (Z11q : Int) (Z11r : Int) (Zft : Int) (Zij : Int) (Zg7 : Nat) (Zk9 : Option Nat) (Zhu : List D) (Zrl : Nat) (Zo2 : Option Nat) (Zr8 : List D) (Zng : Int) (Zvc : Int) (Zh3 : Int) (Zhv : Bool) (Zk1 : Bool) (Zh4 : Bool) (Zl2 : Int) (Zhi : Int) (Zi1 : Int) (Zg6 : Bool) (Zqg : Bool) (Zpd : Nat) (Zqh : Bool) (Zrc : Int) (Zpe : Int) (Z11s : Int) (Z1bc : Nat) (Z1bd : List D) (Zv9 : List D) : Z3u m n0 (n1 + 1) Z3v Z44 Z5s Z5q x31 c33 Zhw Zln Ztu Z11o Z11p Z11q Z11r Zft Zij Zg7 Zk9 Zhu Zrl Zo2 Zr8 Zng Zvc Zh3 Zhv Zk1 Zh4 Zl2 Zhi Zi1 Zg6 Zqg Zpd Zqh Zrc Zpe Z11s Z1bc Z1bd Zv9 =
 (cond (decide (Zft < (Zpd : Int)))
 (if 0 ≤ Zft ∧ Zft < (Zpd : Int) then
 if (((0 + ((Int.toNat Zft) * 18)) + 0) + 17) ≤ Z1bc then
 (cellsEq [.int,.int,.int,.int,.int,.int,.int,.int,.int,.int,.int,.int,.int,.int,.int,.int,.int] (cutL Z1bc Z1bd ((0 + ((Int.toNat Zft) * 18)) + 0) 17) Zv9).bind fun b38 =>
 cond b38
 (if 0 ≤ Zft ∧ Zft < (Zpd : Int) then
 (rdL Z1bd[((0 + ((Int.toNat Zft) * 18)) + 17)]?).bind fun q39 =>
 Zt7 m n0 Z3v Zij Zg7 Zk9 Zhu Zrl Zo2 Zr8 Zng Zvc Zh3 Zhv Zk1 Zh4 Zl2 Zhi Zi1 Zg6 Zqg Zpd Zqh Zrc Zpe Z11s Z1bc Z1bd Zv9 Zg6 Zqg Zpd Zqh Zrc Zpe Z11s Zv9
 else none)
 (Z3u m n0 n1 Z3v Z44 Z5s Z5q x31 c33 Zhw Zln Ztu Z11o Z11p Z11q Z11r (IntKind.wrap .i64 (Zft + (1 : Int))) Zij Zg7 Zk9 Zhu Zrl Zo2 Zr8 Zng Zvc Zh3 Zhv Zk1 Zh4 Zl2 Zhi Zi1 Zg6 Zqg Zpd Zqh Zrc Zpe Z11s Z1bc Z1bd Zv9)
 else none
 else none)
 (if 0 ≤ Z3v ∧ Z3v < (Zg7 : Int) then
 (rdI .u8 Zhu[((Int.toNat Z3v) * 1)]?).bind fun x40 =>
 (Zel [(D.v (.int .u8 (IntKind.wrap .u8 (Int.tdiv x40 (7 : Int)))))]).bind fun d41 =>
 (rdL (some d41)).bind fun q42 =>
 if (List.length Zv9) = 17 then
 if (List.length (List.set (putL 18 [(D.v (.int .u8 (0 : Int))),zU,zU,zU,zU,zU,zU,zU,zU,zU,zU,zU,zU,zU,zU,zU,zU,(D.list 0 (some 0) [])] 0 17 Zv9) 17 (D.list q42.n q42.cap q42.cs))) = 18 then
 if (List.length (List.set (putL 18 [(D.v (.int .u8 (0 : Int))),zU,zU,zU,zU,zU,zU,zU,zU,zU,zU,zU,zU,zU,zU,zU,zU,(D.list 0 (some 0) [])] 0 17 Zv9) 17 (D.list q42.n q42.cap q42.cs))) = 18 then
 if ownB ⟨0,[],false,[]⟩ 3 = true ∧ Z1bc = (Zpd * 18) ∧ Z4y (Zpd + 1) 96 ∧ (List.length (List.set (putL 18 [(D.v (.int .u8 (0 : Int))),zU,zU,zU,zU,zU,zU,zU,zU,zU,zU,zU,zU,zU,zU,zU,zU,(D.list 0 (some 0) [])] 0 17 Zv9) 17 (D.list q42.n q42.cap q42.cs))) = 18 then
 Zpf m n0 Z3v Zij Zg7 Zk9 Zhu Zrl Zo2 Zr8 Zng Zvc Zh3 Zhv Zk1 Zh4 Zl2 Zhi Zi1 Zg6 Zqg (Zpd + 1) Zqh Zrc Zpe Z11s ((Zpd + 1) * 18) (Z1bd ++ (List.set (putL 18 [(D.v (.int .u8 (0 : Int))),zU,zU,zU,zU,zU,zU,zU,zU,zU,zU,zU,zU,zU,zU,zU,zU,(D.list 0 (some 0) [])] 0 17 Zv9) 17 (D.list q42.n q42.cap q42.cs))) Zv9 Zg6 Zqg Zqh Zrc Zpe Z11s Zv9
 else none
 else none
 else none
 else none
 else none)) := by kernel_rfl
theorem Zzd (m n0 : Nat) (Z3v : Int) (Z4x : Int) (Z44 : Nat) (Z5s : Option Nat) (Z5q : List D) (Z81 : Nat) (Z6g : Option Nat) (Z8e : List D) (Z6y : Int) (Ze7 : Int) (Z5i : Int) (Z56 : Bool) (Zkv : Bool) (Zkc : Bool) (Zkw : Int) (Zkx : Int) (Zq6 : Int) (Zhw : Bool) (Zln : Bool) (Ztu : Nat) (Z11o : Bool) (Z11p : Int) (Z11q : Int) (Z11r : Int) (Z1il : Nat) (Z1im : List D) : Zt6 m n0 Z3v Z4x Z44 Z5s Z5q Z81 Z6g Z8e Z6y Ze7 Z5i Z56 Zkv Zkc Zkw Zkx Zq6 Zhw Zln Ztu Z11o Z11p Z11q Z11r Z1il Z1im =
 (if 0 ≤ Z3v ∧ Z3v < (Z44 : Int) then
 (rdI .u8 Z5q[((Int.toNat Z3v) * 1)]?).bind fun x31 =>
 (Z4g [(D.v (.int .u8 x31))]).bind fun d32 =>
 (rdA (some d32)).bind fun c33 =>
 if (List.length c33) = 17 then
 if (List.length c33) = 17 then
 Z3u m n0 m Z3v Z44 Z5s Z5q x31 c33 Zhw Zln Ztu Z11o Z11p Z11q Z11r (0 : Int) Z4x Z44 Z5s Z5q Z81 Z6g Z8e Z6y Ze7 Z5i Z56 Zkv Zkc Zkw Zkx Zq6 Zhw Zln Ztu Z11o Z11p Z11q Z11r Z1il Z1im c33
 else none
 else none
 else none) := (Z12 m _).trans (by kernel_rfl)
noncomputable def Zhk (m : Nat) (Ztv : Int) (Zve : Nat) (Zxo : Option Nat) (Zxp : List D) (Zvf : Nat) (Zvg : Option Nat) (Zvh : List D) (Zvi : Int) (Zvj : Int) (Zxq : Int) (Zhx : Bool) (Zhy : Bool) (Zhz : Bool) (Zlp : Int) (Zp4 : Int) (Zp5 : Int) (Zp6 : Bool) (Zp7 : Bool) (Z19w : Nat) (Z19x : Bool) (Z1iz : Int) (Z1j0 : Int) (Z1j1 : Int) (Z1j2 : Nat) (Z1j3 : List D) : Option D :=
 cutK m (codeK Tg Zd.sp ⟨0,[],false,[]⟩ (inlK Tg Zd m 4) m Zb (subc [1,1,1] (bodyOf Tryz.f19)) ⟨[Jk,(AV.ptr 0 0),(AV.ptr 1 0),(AV.ptr 2 0),Jk,Jk,Jk,Jk,Jk,Jk,Jk,Jk,Jk,Jk,Jk,Jk,Jk,Jk,Jk,Jk,Jk,Jk,Jk,Jk,Jk,Jk,Jk,Jk,Jk,Jk,Jk,Jk,Jk,Jk,Jk,Jk,Jk,Jk,Jk,Jk,Jk,Jk,Jk,Jk,Jk,Jk,Jk,Jk,Jk,Jk,Jk,Jk,Jk,Jk,Jk,Jk,Jk,Jk,Jk,Jk,Jk,Jk,Jk,Jk,Jk,Jk,Jk,Jk,Jk,Jk,Jk,Jk,Jk,Jk,Jk,Jk,Jk,Jk,Jk,Jk,Jk,Jk,Jk,Jk,Jk,Jk,Jk,Jk,Jk,Jk,Jk,Jk,Jk,Jk,Jk,Jk,Jk,Jk,Jk,Jk,Jk,Jk,Jk,Jk,Jk,Jk,Jk,Jk,Jk,Jk,Jk,Jk,Jk,Jk,Jk,Jk,Jk,Jk,Jk,Jk,Jk,Jk,Jk,Jk,Jk,Jk,Jk,Jk,Jk,Jk,Jk,Jk,Jk,Jk,Jk,Jk,Jk,Jk,Jk,Jk,Jk,Jk,Jk,Jk,Jk,Jk,Jk,Jk],[(Blk.d 6 [(D.v (.int .u8 Ztv)),(D.list Zve Zxo Zxp),(D.list Zvf Zvg Zvh),(D.v (.int .u8 Zvi)),(D.v (.int .u8 Zvj)),(D.v (.int .u8 Zxq))]),(Blk.d 8 [(D.v (.bool Zhx)),(D.v (.bool Zhy)),(D.list 0 (some 0) []),(D.v (.bool Zhz)),(D.list 0 (some 0) []),(D.v (.int .i64 Zlp)),(D.v (.int .i64 Zp4)),(D.v (.int .i64 Zp5))]),(Blk.a 8 [(AV.d (D.v (.bool Zp6))),(AV.d (D.v (.bool Zp7))),(AV.sl 3 0 Z19w none 18),(AV.d (D.v (.bool Z19x))),(AV.d (D.list 0 (some 0) [])),(AV.d (D.v (.int .i64 Z1iz))),(AV.d (D.v (.int .i64 Z1j0))),(AV.d (D.v (.int .i64 Z1j1)))]),(Blk.d Z1j2 Z1j3)]⟩
  (contK Tg Zd.sp ⟨0,[],false,[]⟩ (inlK Tg Zd m 4) m Zb (endK Tg Tryz.f19 endV) []))
noncomputable def Z7w (m n0 : Nat) (Z18u : Int) (Zze : Int) (Z15s : Nat) (Z16i : Option Nat) (Z16j : List D) (Z1d9 : Nat) (Z15t : Option Nat) (Z1e9 : List D) (Z16k : Int) (Z16l : Int) (Zm3 : Int) (Zzf : Bool) (Zzg : Bool) (Zzh : Bool) (Zzi : Int) (Zzj : Int) (Zzk : Int) (Zzl : Bool) (Zzm : Bool) (Zzn : Nat) (Zzo : Bool) (Z1cn : Nat) (Zzp : Int) (Zzq : Int) (Zzr : Int) (Zzs : Nat) (Zzt : List D) (Z1ea : Nat) (Z1eb : List D) : Option D :=
 Z26 (bm 270 148) 0 5 (codeK Tg Zd.sp ⟨0,[],false,[]⟩ (inlK Tg Zd m 4) m Zb (subc [1,1,1,0,1,0,0] (bodyOf Tryz.f19))) n0 ⟨[Jk,(AV.ptr 0 0),(AV.ptr 1 0),(AV.ptr 2 0),Jk,Jk,Jk,Jk,(AV.d (D.v (.int .i64 Z18u))),Jk,Jk,Jk,Jk,Jk,Jk,Jk,Jk,Jk,Jk,Jk,Jk,Jk,Jk,Jk,Jk,Jk,Jk,Jk,Jk,Jk,Jk,Jk,Jk,Jk,Jk,Jk,Jk,Jk,Jk,Jk,Jk,Jk,Jk,Jk,Jk,Jk,Jk,Jk,Jk,Jk,Jk,Jk,Jk,Jk,Jk,Jk,Jk,Jk,Jk,Jk,Jk,Jk,Jk,Jk,Jk,Jk,Jk,Jk,Jk,Jk,Jk,Jk,Jk,Jk,Jk,Jk,Jk,Jk,Jk,Jk,Jk,Jk,Jk,Jk,Jk,Jk,Jk,Jk,Jk,Jk,Jk,Jk,Jk,Jk,Jk,Jk,Jk,Jk,Jk,Jk,Jk,Jk,Jk,Jk,Jk,Jk,Jk,Jk,Jk,Jk,Jk,Jk,Jk,Jk,Jk,Jk,Jk,Jk,Jk,Jk,Jk,Jk,Jk,Jk,Jk,Jk,Jk,Jk,Jk,Jk,Jk,Jk,Jk,Jk,Jk,Jk,Jk,Jk,Jk,Jk,Jk,Jk,Jk,Jk,Jk,Jk,Jk,Jk],[(Blk.d 6 [(D.v (.int .u8 Zze)),(D.list Z15s Z16i Z16j),(D.list Z1d9 Z15t Z1e9),(D.v (.int .u8 Z16k)),(D.v (.int .u8 Z16l)),(D.v (.int .u8 Zm3))]),(Blk.d 8 [(D.v (.bool Zzf)),(D.v (.bool Zzg)),(D.list 0 (some 0) []),(D.v (.bool Zzh)),(D.list 0 (some 0) []),(D.v (.int .i64 Zzi)),(D.v (.int .i64 Zzj)),(D.v (.int .i64 Zzk))]),(Blk.a 8 [(AV.d (D.v (.bool Zzl))),(AV.d (D.v (.bool Zzm))),(AV.sl 3 0 Zzn none 18),(AV.d (D.v (.bool Zzo))),(AV.sl 4 0 Z1cn none 34),(AV.d (D.v (.int .i64 Zzp))),(AV.d (D.v (.int .i64 Zzq))),(AV.d (D.v (.int .i64 Zzr)))]),(Blk.d Zzs Zzt),(Blk.d Z1ea Z1eb)]⟩
  (contK Tg Zd.sp ⟨0,[],false,[]⟩ (inlK Tg Zd m 4) m Zb (endK Tg Tryz.f19 endV) [.block 2,.code (subc [1,1,1,1] (bodyOf Tryz.f19))])
noncomputable def Zr4 (m n0 : Nat) (Zrb : Int) (Z13q : Int) (Z154 : Nat) (Z18s : Option Nat) (Z17t : List D) (Z14x : Nat) (Z17u : Option Nat) (Z14y : List D) (Z17v : Int) (Z18t : Int) (Zp8 : Int) (Zp9 : Bool) (Zpa : Bool) (Zyl : Bool) (Ztw : Int) (Zym : Int) (Zyn : Int) (Zyo : Bool) (Z17w : Bool) (Z17x : Nat) (Z1gw : Bool) (Z1gx : Nat) (Z1gy : Int) (Z1gz : Int) (Z1h0 : Int) (Z1h1 : Nat) (Z1h2 : List D) (Z1h3 : Nat) (Z1h4 : List D) : Option D :=
 cutK m (codeK Tg Zd.sp ⟨0,[],false,[]⟩ (inlK Tg Zd m 4) m Zb (subc [1,1,1,0,1,0,0,1] (bodyOf Tryz.f19)) ⟨[Jk,(AV.ptr 0 0),(AV.ptr 1 0),(AV.ptr 2 0),Jk,Jk,Jk,Jk,(AV.d (D.v (.int .i64 Zrb))),Jk,Jk,Jk,Jk,Jk,Jk,Jk,Jk,Jk,Jk,Jk,Jk,Jk,Jk,Jk,Jk,Jk,Jk,Jk,Jk,Jk,Jk,Jk,Jk,Jk,Jk,Jk,Jk,Jk,Jk,Jk,Jk,Jk,Jk,Jk,Jk,Jk,Jk,Jk,Jk,Jk,Jk,Jk,Jk,Jk,Jk,Jk,Jk,Jk,Jk,Jk,Jk,Jk,Jk,Jk,Jk,Jk,Jk,Jk,Jk,Jk,Jk,Jk,Jk,Jk,Jk,Jk,Jk,Jk,Jk,Jk,Jk,Jk,Jk,Jk,Jk,Jk,Jk,Jk,Jk,Jk,Jk,Jk,Jk,Jk,Jk,Jk,Jk,Jk,Jk,Jk,Jk,Jk,Jk,Jk,Jk,Jk,Jk,Jk,Jk,Jk,Jk,Jk,Jk,Jk,Jk,Jk,Jk,Jk,Jk,Jk,Jk,Jk,Jk,Jk,Jk,Jk,Jk,Jk,Jk,Jk,Jk,Jk,Jk,Jk,Jk,Jk,Jk,Jk,Jk,Jk,Jk,Jk,Jk,Jk,Jk,Jk,Jk,Jk],[(Blk.d 6 [(D.v (.int .u8 Z13q)),(D.list Z154 Z18s Z17t),(D.list Z14x Z17u Z14y),(D.v (.int .u8 Z17v)),(D.v (.int .u8 Z18t)),(D.v (.int .u8 Zp8))]),(Blk.d 8 [(D.v (.bool Zp9)),(D.v (.bool Zpa)),(D.list 0 (some 0) []),(D.v (.bool Zyl)),(D.list 0 (some 0) []),(D.v (.int .i64 Ztw)),(D.v (.int .i64 Zym)),(D.v (.int .i64 Zyn))]),(Blk.a 8 [(AV.d (D.v (.bool Zyo))),(AV.d (D.v (.bool Z17w))),(AV.sl 3 0 Z17x none 18),(AV.d (D.v (.bool Z1gw))),(AV.sl 4 0 Z1gx none 34),(AV.d (D.v (.int .i64 Z1gy))),(AV.d (D.v (.int .i64 Z1gz))),(AV.d (D.v (.int .i64 Z1h0)))]),(Blk.d Z1h1 Z1h2),(Blk.d Z1h3 Z1h4)]⟩
  (contK Tg Zd.sp ⟨0,[],false,[]⟩ (inlK Tg Zd m 4) m Zb (endK Tg Tryz.f19 endV) [.loop (bm 270 148) 5 (subc [1,1,1,0,1,0,0] (bodyOf Tryz.f19)) n0,.block 2,.code (subc [1,1,1,1] (bodyOf Tryz.f19))]))
noncomputable def Zex (m n0 : Nat) (Z1d7 : Int) (Z1f3 : Int) (Z1ic : Nat) (Z1id : Option Nat) (Z1ie : List D) (Z1hq : Nat) (Z1if : Option Nat) (Z1hr : List D) (Z1ig : Int) (Z1ih : Int) (Z17y : Int) (Z17z : Bool) (Z180 : Bool) (Z181 : Bool) (Z182 : Int) (Z183 : Int) (Z184 : Int) (Z185 : Bool) (Z186 : Bool) (Z187 : Nat) (Z1h5 : Bool) (Z1h6 : Nat) (Z1h7 : Int) (Z1h8 : Int) (Z1h9 : Int) (Z1ha : Nat) (Z1hb : List D) (Z1hc : Nat) (Z1hd : List D) (Z1he : List D) : Option D :=
 cutK m (codeK Tg Zd.sp ⟨0,[],false,[]⟩ (inlK Tg Zd m 4) m Zb (subc [1,1,1,0,1,0,0,1,0,0,1,1] (bodyOf Tryz.f19)) ⟨[Jk,(AV.ptr 0 0),(AV.ptr 1 0),(AV.ptr 2 0),Jk,Jk,Jk,Jk,(AV.d (D.v (.int .i64 Z1d7))),(AV.ptr 5 0),Jk,Jk,Jk,Jk,Jk,Jk,Jk,Jk,Jk,Jk,Jk,Jk,Jk,Jk,Jk,Jk,Jk,Jk,Jk,Jk,Jk,Jk,Jk,Jk,Jk,Jk,Jk,Jk,Jk,Jk,Jk,Jk,Jk,Jk,Jk,Jk,Jk,Jk,Jk,Jk,Jk,Jk,Jk,Jk,Jk,Jk,Jk,Jk,Jk,Jk,Jk,Jk,Jk,Jk,Jk,Jk,Jk,Jk,Jk,Jk,Jk,Jk,Jk,Jk,Jk,Jk,Jk,Jk,Jk,Jk,Jk,Jk,Jk,Jk,Jk,Jk,Jk,Jk,Jk,Jk,Jk,Jk,Jk,Jk,Jk,Jk,Jk,Jk,Jk,Jk,Jk,Jk,Jk,Jk,Jk,Jk,Jk,Jk,Jk,Jk,Jk,Jk,Jk,Jk,Jk,Jk,Jk,Jk,Jk,Jk,Jk,Jk,Jk,Jk,Jk,Jk,Jk,Jk,Jk,Jk,Jk,Jk,Jk,Jk,Jk,Jk,Jk,Jk,Jk,Jk,Jk,Jk,Jk,Jk,Jk,Jk,Jk,Jk],[(Blk.d 6 [(D.v (.int .u8 Z1f3)),(D.list Z1ic Z1id Z1ie),(D.list Z1hq Z1if Z1hr),(D.v (.int .u8 Z1ig)),(D.v (.int .u8 Z1ih)),(D.v (.int .u8 Z17y))]),(Blk.d 8 [(D.v (.bool Z17z)),(D.v (.bool Z180)),(D.list 0 (some 0) []),(D.v (.bool Z181)),(D.list 0 (some 0) []),(D.v (.int .i64 Z182)),(D.v (.int .i64 Z183)),(D.v (.int .i64 Z184))]),(Blk.a 8 [(AV.d (D.v (.bool Z185))),(AV.d (D.v (.bool Z186))),(AV.sl 3 0 Z187 none 18),(AV.d (D.v (.bool Z1h5))),(AV.sl 4 0 Z1h6 none 34),(AV.d (D.v (.int .i64 Z1h7))),(AV.d (D.v (.int .i64 Z1h8))),(AV.d (D.v (.int .i64 Z1h9)))]),(Blk.d Z1ha Z1hb),(Blk.d Z1hc Z1hd),(Blk.d 34 Z1he)]⟩
  (contK Tg Zd.sp ⟨0,[],false,[]⟩ (inlK Tg Zd m 4) m Zb (endK Tg Tryz.f19 endV) [.block 3,.code (subc [1,1,1,0,1,0,0,1,1] (bodyOf Tryz.f19)),.loop (bm 270 148) 5 (subc [1,1,1,0,1,0,0] (bodyOf Tryz.f19)) n0,.block 2,.code (subc [1,1,1,1] (bodyOf Tryz.f19))]))
noncomputable def Zkl (m n0 : Nat) (Z1hs : Int) (Z1ht : Int) (Z1kc : Nat) (Z1kd : Option Nat) (Z1ke : List D) (Z1kf : Nat) (Z1kg : Option Nat) (Z1kh : List D) (Z1ki : Int) (Z1kj : Int) (Z19y : Int) (Z19z : Bool) (Z1a0 : Bool) (Z1a1 : Bool) (Z1a2 : Int) (Z1a3 : Int) (Z1a4 : Int) (Z1a5 : Bool) (Z1a6 : Bool) (Z1a7 : Nat) (Z1j4 : Bool) (Z1j5 : Nat) (Z1j6 : Int) (Z1j7 : Int) (Z1j8 : Int) (Z1j9 : Nat) (Z1ja : List D) (Z1jb : Nat) (Z1jc : List D) (Z1jd : List D) : Option D :=
 cutK m (codeK Tg Zd.sp ⟨0,[],false,[]⟩ (inlK Tg Zd m 4) m Zb (subc [1,1,1,0,1,0,0,1,0,0,1,1,1] (bodyOf Tryz.f19)) ⟨[Jk,(AV.ptr 0 0),(AV.ptr 1 0),(AV.ptr 2 0),Jk,Jk,Jk,Jk,(AV.d (D.v (.int .i64 Z1hs))),(AV.ptr 5 0),Jk,Jk,Jk,Jk,Jk,Jk,Jk,Jk,Jk,Jk,Jk,Jk,Jk,Jk,Jk,Jk,Jk,Jk,Jk,Jk,Jk,Jk,Jk,Jk,Jk,Jk,Jk,Jk,Jk,Jk,Jk,Jk,Jk,Jk,Jk,Jk,Jk,Jk,Jk,Jk,Jk,Jk,Jk,Jk,Jk,Jk,Jk,Jk,Jk,Jk,Jk,Jk,Jk,Jk,Jk,Jk,Jk,Jk,Jk,Jk,Jk,Jk,Jk,Jk,Jk,Jk,Jk,Jk,Jk,Jk,Jk,Jk,Jk,Jk,Jk,Jk,Jk,Jk,Jk,Jk,Jk,Jk,Jk,Jk,Jk,Jk,Jk,Jk,Jk,Jk,Jk,Jk,Jk,Jk,Jk,Jk,Jk,Jk,Jk,Jk,Jk,Jk,Jk,Jk,Jk,Jk,Jk,Jk,Jk,Jk,Jk,Jk,Jk,Jk,Jk,Jk,Jk,Jk,Jk,Jk,Jk,Jk,Jk,Jk,Jk,Jk,Jk,Jk,Jk,Jk,Jk,Jk,Jk,Jk,Jk,Jk,Jk,Jk],[(Blk.d 6 [(D.v (.int .u8 Z1ht)),(D.list Z1kc Z1kd Z1ke),(D.list Z1kf Z1kg Z1kh),(D.v (.int .u8 Z1ki)),(D.v (.int .u8 Z1kj)),(D.v (.int .u8 Z19y))]),(Blk.d 8 [(D.v (.bool Z19z)),(D.v (.bool Z1a0)),(D.list 0 (some 0) []),(D.v (.bool Z1a1)),(D.list 0 (some 0) []),(D.v (.int .i64 Z1a2)),(D.v (.int .i64 Z1a3)),(D.v (.int .i64 Z1a4))]),(Blk.a 8 [(AV.d (D.v (.bool Z1a5))),(AV.d (D.v (.bool Z1a6))),(AV.sl 3 0 Z1a7 none 18),(AV.d (D.v (.bool Z1j4))),(AV.sl 4 0 Z1j5 none 34),(AV.d (D.v (.int .i64 Z1j6))),(AV.d (D.v (.int .i64 Z1j7))),(AV.d (D.v (.int .i64 Z1j8)))]),(Blk.d Z1j9 Z1ja),(Blk.d Z1jb Z1jc),(Blk.d 34 Z1jd)]⟩
  (contK Tg Zd.sp ⟨0,[],false,[]⟩ (inlK Tg Zd m 4) m Zb (endK Tg Tryz.f19 endV) [.block 3,.code (subc [1,1,1,0,1,0,0,1,1] (bodyOf Tryz.f19)),.loop (bm 270 148) 5 (subc [1,1,1,0,1,0,0] (bodyOf Tryz.f19)) n0,.block 2,.code (subc [1,1,1,1] (bodyOf Tryz.f19))]))
noncomputable def Zcs (m n0 n1 : Nat) (Z18v : Int) (Z1hf : Int) (Z12m : Int) (Zxa : Int) (Z16m : Nat) (Z14d : Option Nat) (Z16n : List D) (Z1n9 : Nat) (Z1ee : Option Nat) (Z1na : List D) (Z11t : Int) (Z11u : Int) (Z11v : Int) (Z11w : Bool) (Z11x : Bool) (Z11y : Bool) (Z11z : Int) (Z120 : Int) (Z121 : Int) (Z122 : Bool) (Z123 : Bool) (Z124 : Nat) (Z125 : Bool) (Z126 : Nat) (Z127 : Int) (Z128 : Int) (Z129 : Int) (Z12a : Nat) (Z12b : List D) (Z18j : Nat) (Z1be : List D) (Z12c : List D) : Option D :=
 Z26 (bm 3854 148) 0 6 (codeK Tg Zd.sp ⟨0,[],false,[]⟩ (inlK Tg Zd m 4) m Zb (subc [1,1,1,0,1,0,0,1,0,0,1,1,1,1,0,1,0,0] (bodyOf Tryz.f19))) n1 ⟨[Jk,(AV.ptr 0 0),(AV.ptr 1 0),(AV.ptr 2 0),Jk,Jk,Jk,Jk,(AV.d (D.v (.int .i64 Z18v))),(AV.ptr 5 0),(AV.d (D.v (.int .i64 Z1hf))),(AV.d (D.v (.int .i64 Z12m))),Jk,Jk,Jk,Jk,Jk,Jk,Jk,Jk,Jk,Jk,Jk,Jk,Jk,Jk,Jk,Jk,Jk,Jk,Jk,Jk,Jk,Jk,Jk,Jk,Jk,Jk,Jk,Jk,Jk,Jk,Jk,Jk,Jk,Jk,Jk,Jk,Jk,Jk,Jk,Jk,Jk,Jk,Jk,Jk,Jk,Jk,Jk,Jk,Jk,Jk,Jk,Jk,Jk,Jk,Jk,Jk,Jk,Jk,Jk,Jk,Jk,Jk,Jk,Jk,Jk,Jk,Jk,Jk,Jk,Jk,Jk,Jk,Jk,Jk,Jk,Jk,Jk,Jk,Jk,Jk,Jk,Jk,Jk,Jk,Jk,Jk,Jk,Jk,Jk,Jk,Jk,Jk,Jk,Jk,Jk,Jk,Jk,Jk,Jk,Jk,Jk,Jk,Jk,Jk,Jk,Jk,Jk,Jk,Jk,Jk,Jk,Jk,Jk,Jk,Jk,Jk,Jk,Jk,Jk,Jk,Jk,Jk,Jk,Jk,Jk,Jk,Jk,Jk,Jk,Jk,Jk,Jk,Jk,Jk,Jk,Jk],[(Blk.d 6 [(D.v (.int .u8 Zxa)),(D.list Z16m Z14d Z16n),(D.list Z1n9 Z1ee Z1na),(D.v (.int .u8 Z11t)),(D.v (.int .u8 Z11u)),(D.v (.int .u8 Z11v))]),(Blk.d 8 [(D.v (.bool Z11w)),(D.v (.bool Z11x)),(D.list 0 (some 0) []),(D.v (.bool Z11y)),(D.list 0 (some 0) []),(D.v (.int .i64 Z11z)),(D.v (.int .i64 Z120)),(D.v (.int .i64 Z121))]),(Blk.a 8 [(AV.d (D.v (.bool Z122))),(AV.d (D.v (.bool Z123))),(AV.sl 3 0 Z124 none 18),(AV.d (D.v (.bool Z125))),(AV.sl 4 0 Z126 none 34),(AV.d (D.v (.int .i64 Z127))),(AV.d (D.v (.int .i64 Z128))),(AV.d (D.v (.int .i64 Z129)))]),(Blk.d Z12a Z12b),(Blk.d Z18j Z1be),(Blk.d 34 Z12c)]⟩
  (contK Tg Zd.sp ⟨0,[],false,[]⟩ (inlK Tg Zd m 4) m Zb (endK Tg Tryz.f19 endV) [.block 4,.code (subc [1,1,1,0,1,0,0,1,0,0,1,1,1,1,1] (bodyOf Tryz.f19)),.block 3,.code (subc [1,1,1,0,1,0,0,1,1] (bodyOf Tryz.f19)),.loop (bm 270 148) 5 (subc [1,1,1,0,1,0,0] (bodyOf Tryz.f19)) n0,.block 2,.code (subc [1,1,1,1] (bodyOf Tryz.f19))])
noncomputable def Zkm (m n0 n1 : Nat) (Z1hu : Int) (Z1hv : Int) (Z1kk : Int) (Z1kl : Int) (Z1km : Nat) (Z1kn : Option Nat) (Z1ko : List D) (Z1kp : Nat) (Z1kq : Option Nat) (Z1kr : List D) (Z1a8 : Int) (Z1a9 : Int) (Z1aa : Int) (Z1ab : Bool) (Z1ac : Bool) (Z1ad : Bool) (Z1ae : Int) (Z1af : Int) (Z1ag : Int) (Z1ah : Bool) (Z1je : Bool) (Z1jf : Nat) (Z1jg : Bool) (Z1jh : Nat) (Z1ji : Int) (Z1jj : Int) (Z1jk : Int) (Z1jl : Nat) (Z1jm : List D) (Z1jn : Nat) (Z1jo : List D) (Z1jp : List D) : Option D :=
 cutK m (codeK Tg Zd.sp ⟨0,[],false,[]⟩ (inlK Tg Zd m 4) m Zb (subc [1,1,1,0,1,0,0,1,0,0,1,1,1,1,0,1,0,0,1,1] (bodyOf Tryz.f19)) ⟨[Jk,(AV.ptr 0 0),(AV.ptr 1 0),(AV.ptr 2 0),Jk,Jk,Jk,Jk,(AV.d (D.v (.int .i64 Z1hu))),(AV.ptr 5 0),(AV.d (D.v (.int .i64 Z1hv))),(AV.d (D.v (.int .i64 Z1kk))),Jk,Jk,Jk,Jk,Jk,Jk,Jk,Jk,Jk,Jk,Jk,Jk,Jk,Jk,Jk,Jk,Jk,Jk,Jk,Jk,Jk,Jk,Jk,Jk,Jk,Jk,Jk,Jk,Jk,Jk,Jk,Jk,Jk,Jk,Jk,Jk,Jk,Jk,Jk,Jk,Jk,Jk,Jk,Jk,Jk,Jk,Jk,Jk,Jk,Jk,Jk,Jk,Jk,Jk,Jk,Jk,Jk,Jk,Jk,Jk,Jk,Jk,Jk,Jk,Jk,Jk,Jk,Jk,Jk,Jk,Jk,Jk,Jk,Jk,Jk,Jk,Jk,Jk,Jk,Jk,Jk,Jk,Jk,Jk,Jk,Jk,Jk,Jk,Jk,Jk,Jk,Jk,Jk,Jk,Jk,Jk,Jk,Jk,Jk,Jk,Jk,Jk,Jk,Jk,Jk,Jk,Jk,Jk,Jk,Jk,Jk,Jk,Jk,Jk,Jk,Jk,Jk,Jk,Jk,Jk,Jk,Jk,Jk,Jk,Jk,Jk,Jk,Jk,Jk,Jk,Jk,Jk,Jk,Jk,Jk,Jk],[(Blk.d 6 [(D.v (.int .u8 Z1kl)),(D.list Z1km Z1kn Z1ko),(D.list Z1kp Z1kq Z1kr),(D.v (.int .u8 Z1a8)),(D.v (.int .u8 Z1a9)),(D.v (.int .u8 Z1aa))]),(Blk.d 8 [(D.v (.bool Z1ab)),(D.v (.bool Z1ac)),(D.list 0 (some 0) []),(D.v (.bool Z1ad)),(D.list 0 (some 0) []),(D.v (.int .i64 Z1ae)),(D.v (.int .i64 Z1af)),(D.v (.int .i64 Z1ag))]),(Blk.a 8 [(AV.d (D.v (.bool Z1ah))),(AV.d (D.v (.bool Z1je))),(AV.sl 3 0 Z1jf none 18),(AV.d (D.v (.bool Z1jg))),(AV.sl 4 0 Z1jh none 34),(AV.d (D.v (.int .i64 Z1ji))),(AV.d (D.v (.int .i64 Z1jj))),(AV.d (D.v (.int .i64 Z1jk)))]),(Blk.d Z1jl Z1jm),(Blk.d Z1jn Z1jo),(Blk.d 34 Z1jp)]⟩
  (contK Tg Zd.sp ⟨0,[],false,[]⟩ (inlK Tg Zd m 4) m Zb (endK Tg Tryz.f19 endV) [.loop (bm 3854 148) 6 (subc [1,1,1,0,1,0,0,1,0,0,1,1,1,1,0,1,0,0] (bodyOf Tryz.f19)) n1,.block 4,.code (subc [1,1,1,0,1,0,0,1,0,0,1,1,1,1,1] (bodyOf Tryz.f19)),.block 3,.code (subc [1,1,1,0,1,0,0,1,1] (bodyOf Tryz.f19)),.loop (bm 270 148) 5 (subc [1,1,1,0,1,0,0] (bodyOf Tryz.f19)) n0,.block 2,.code (subc [1,1,1,1] (bodyOf Tryz.f19))]))
theorem Znn (m n0 n1 : Nat) (Z1hu : Int) (Z1hv : Int) (Z1kk : Int) (Z1kl : Int) (Z1km : Nat) (Z1kn : Option Nat) (Z1ko : List D) (Z1kp : Nat) (Z1kq : Option Nat) (Z1kr : List D) (Z1a8 : Int) (Z1a9 : Int) (Z1aa : Int) (Z1ab : Bool) (Z1ac : Bool) (Z1ad : Bool) (Z1ae : Int) (Z1af : Int) (Z1ag : Int) (Z1ah : Bool) (Z1je : Bool) (Z1jf : Nat) (Z1jg : Bool) (Z1jh : Nat) (Z1ji : Int) (Z1jj : Int) (Z1jk : Int) (Z1jl : Nat) (Z1jm : List D) (Z1jn : Nat) (Z1jo : List D) (Z1jp : List D) : Zkm m n0 n1 Z1hu Z1hv Z1kk Z1kl Z1km Z1kn Z1ko Z1kp Z1kq Z1kr Z1a8 Z1a9 Z1aa Z1ab Z1ac Z1ad Z1ae Z1af Z1ag Z1ah Z1je Z1jf Z1jg Z1jh Z1ji Z1jj Z1jk Z1jl Z1jm Z1jn Z1jo Z1jp =
 (Zcs m n0 n1 Z1hu Z1hv (IntKind.wrap .i64 (Z1kk + (1 : Int))) Z1kl Z1km Z1kn Z1ko Z1kp Z1kq Z1kr Z1a8 Z1a9 Z1aa Z1ab Z1ac Z1ad Z1ae Z1af Z1ag Z1ah Z1je Z1jf Z1jg Z1jh Z1ji Z1jj Z1jk Z1jl Z1jm Z1jn Z1jo Z1jp) := (Z12 m _).trans (by kernel_rfl)
noncomputable def Zr5 (m n0 : Nat) (Z1hw : Int) (Z1hx : Int) (Z1ks : Nat) (Z1kt : Option Nat) (Z1ku : List D) (Z1kv : Nat) (Z1kw : Option Nat) (Z1kx : List D) (Z1ky : Int) (Z1kz : Int) (Z1ai : Int) (Z1aj : Bool) (Z1ak : Bool) (Z1al : Bool) (Z1am : Int) (Z1an : Int) (Z1ao : Int) (Z1ap : Bool) (Z1aq : Bool) (Z1ar : Nat) (Z1jq : Bool) (Z1jr : Nat) (Z1js : Int) (Z1jt : Int) (Z1ju : Int) (Z1jv : Nat) (Z1jw : List D) (Z1jx : Nat) (Z1jy : List D) (Z1nb : List D) (Z1nc : List D) : Option D :=
 cutK m (codeK Tg Zd.sp ⟨0,[],false,[]⟩ (inlK Tg Zd m 4) m Zb (subc [1,1,1,0,1,0,0,1,1] (bodyOf Tryz.f19)) ⟨[Jk,(AV.ptr 0 0),(AV.ptr 1 0),(AV.ptr 2 0),Jk,Jk,Jk,Jk,(AV.d (D.v (.int .i64 Z1hw))),Jk,Jk,Jk,Jk,Jk,Jk,Jk,Jk,Jk,Jk,Jk,Jk,Jk,Jk,Jk,Jk,Jk,Jk,Jk,Jk,Jk,Jk,Jk,Jk,Jk,Jk,Jk,Jk,Jk,Jk,Jk,Jk,Jk,Jk,Jk,Jk,Jk,Jk,Jk,Jk,Jk,Jk,Jk,Jk,Jk,Jk,Jk,Jk,Jk,Jk,Jk,Jk,Jk,Jk,Jk,Jk,Jk,Jk,Jk,Jk,Jk,Jk,Jk,Jk,Jk,Jk,Jk,Jk,Jk,Jk,Jk,Jk,Jk,Jk,Jk,Jk,Jk,Jk,Jk,Jk,Jk,Jk,Jk,Jk,Jk,Jk,Jk,Jk,Jk,Jk,Jk,Jk,Jk,Jk,Jk,Jk,Jk,Jk,Jk,Jk,Jk,Jk,Jk,Jk,Jk,Jk,Jk,Jk,Jk,Jk,Jk,Jk,Jk,Jk,Jk,Jk,Jk,Jk,Jk,Jk,Jk,Jk,Jk,Jk,Jk,Jk,Jk,Jk,Jk,Jk,Jk,Jk,Jk,Jk,Jk,Jk,Jk,Jk,Jk],[(Blk.d 6 [(D.v (.int .u8 Z1hx)),(D.list Z1ks Z1kt Z1ku),(D.list Z1kv Z1kw Z1kx),(D.v (.int .u8 Z1ky)),(D.v (.int .u8 Z1kz)),(D.v (.int .u8 Z1ai))]),(Blk.d 8 [(D.v (.bool Z1aj)),(D.v (.bool Z1ak)),(D.list 0 (some 0) []),(D.v (.bool Z1al)),(D.list 0 (some 0) []),(D.v (.int .i64 Z1am)),(D.v (.int .i64 Z1an)),(D.v (.int .i64 Z1ao))]),(Blk.a 8 [(AV.d (D.v (.bool Z1ap))),(AV.d (D.v (.bool Z1aq))),(AV.sl 3 0 Z1ar none 18),(AV.d (D.v (.bool Z1jq))),(AV.sl 4 0 Z1jr none 34),(AV.d (D.v (.int .i64 Z1js))),(AV.d (D.v (.int .i64 Z1jt))),(AV.d (D.v (.int .i64 Z1ju)))]),(Blk.d Z1jv Z1jw),(Blk.d Z1jx Z1jy),(Blk.d 34 Z1nb),(Blk.d 34 Z1nc)]⟩
  (contK Tg Zd.sp ⟨0,[],false,[]⟩ (inlK Tg Zd m 4) m Zb (endK Tg Tryz.f19 endV) [.loop (bm 270 148) 5 (subc [1,1,1,0,1,0,0] (bodyOf Tryz.f19)) n0,.block 2,.code (subc [1,1,1,1] (bodyOf Tryz.f19))]))
theorem Zxb (m n0 : Nat) (Z1hw : Int) (Z1hx : Int) (Z1ks : Nat) (Z1kt : Option Nat) (Z1ku : List D) (Z1kv : Nat) (Z1kw : Option Nat) (Z1kx : List D) (Z1ky : Int) (Z1kz : Int) (Z1ai : Int) (Z1aj : Bool) (Z1ak : Bool) (Z1al : Bool) (Z1am : Int) (Z1an : Int) (Z1ao : Int) (Z1ap : Bool) (Z1aq : Bool) (Z1ar : Nat) (Z1jq : Bool) (Z1jr : Nat) (Z1js : Int) (Z1jt : Int) (Z1ju : Int) (Z1jv : Nat) (Z1jw : List D) (Z1jx : Nat) (Z1jy : List D) (Z1nb : List D) (Z1nc : List D) : Zr5 m n0 Z1hw Z1hx Z1ks Z1kt Z1ku Z1kv Z1kw Z1kx Z1ky Z1kz Z1ai Z1aj Z1ak Z1al Z1am Z1an Z1ao Z1ap Z1aq Z1ar Z1jq Z1jr Z1js Z1jt Z1ju Z1jv Z1jw Z1jx Z1jy Z1nb Z1nc =
 (Z7w m n0 (IntKind.wrap .i64 (Z1hw + (1 : Int))) Z1hx Z1ks Z1kt Z1ku Z1kv Z1kw Z1kx Z1ky Z1kz Z1ai Z1aj Z1ak Z1al Z1am Z1an Z1ao Z1ap Z1aq Z1ar Z1jq Z1jr Z1js Z1jt Z1ju Z1jv Z1jw Z1jx Z1jy) := (Z12 m _).trans (by kernel_rfl)
noncomputable def Zno (m n0 : Nat) (Z1hy : Int) (Z1hz : Int) (Z1l0 : Nat) (Z1l1 : Option Nat) (Z1l2 : List D) (Z1l3 : Nat) (Z1l4 : Option Nat) (Z1l5 : List D) (Z1l6 : Int) (Z1l7 : Int) (Z1as : Int) (Z1at : Bool) (Z1au : Bool) (Z1av : Bool) (Z1aw : Int) (Z1ax : Int) (Z1ay : Int) (Z1az : Bool) (Z1b0 : Bool) (Z1b1 : Nat) (Z1jz : Bool) (Z1k0 : Nat) (Z1k1 : Int) (Z1k2 : Int) (Z1k3 : Int) (Z1k4 : Nat) (Z1k5 : List D) (Z1k6 : Nat) (Z1k7 : List D) (Z1nd : List D) : Option D :=
 cutK m (codeK Tg Zd.sp ⟨0,[],false,[]⟩ (inlK Tg Zd m 4) m Zb (subc [1,1,1,0,1,0,0,1,1] (bodyOf Tryz.f19)) ⟨[Jk,(AV.ptr 0 0),(AV.ptr 1 0),(AV.ptr 2 0),Jk,Jk,Jk,Jk,(AV.d (D.v (.int .i64 Z1hy))),Jk,Jk,Jk,Jk,Jk,Jk,Jk,Jk,Jk,Jk,Jk,Jk,Jk,Jk,Jk,Jk,Jk,Jk,Jk,Jk,Jk,Jk,Jk,Jk,Jk,Jk,Jk,Jk,Jk,Jk,Jk,Jk,Jk,Jk,Jk,Jk,Jk,Jk,Jk,Jk,Jk,Jk,Jk,Jk,Jk,Jk,Jk,Jk,Jk,Jk,Jk,Jk,Jk,Jk,Jk,Jk,Jk,Jk,Jk,Jk,Jk,Jk,Jk,Jk,Jk,Jk,Jk,Jk,Jk,Jk,Jk,Jk,Jk,Jk,Jk,Jk,Jk,Jk,Jk,Jk,Jk,Jk,Jk,Jk,Jk,Jk,Jk,Jk,Jk,Jk,Jk,Jk,Jk,Jk,Jk,Jk,Jk,Jk,Jk,Jk,Jk,Jk,Jk,Jk,Jk,Jk,Jk,Jk,Jk,Jk,Jk,Jk,Jk,Jk,Jk,Jk,Jk,Jk,Jk,Jk,Jk,Jk,Jk,Jk,Jk,Jk,Jk,Jk,Jk,Jk,Jk,Jk,Jk,Jk,Jk,Jk,Jk,Jk,Jk],[(Blk.d 6 [(D.v (.int .u8 Z1hz)),(D.list Z1l0 Z1l1 Z1l2),(D.list Z1l3 Z1l4 Z1l5),(D.v (.int .u8 Z1l6)),(D.v (.int .u8 Z1l7)),(D.v (.int .u8 Z1as))]),(Blk.d 8 [(D.v (.bool Z1at)),(D.v (.bool Z1au)),(D.list 0 (some 0) []),(D.v (.bool Z1av)),(D.list 0 (some 0) []),(D.v (.int .i64 Z1aw)),(D.v (.int .i64 Z1ax)),(D.v (.int .i64 Z1ay))]),(Blk.a 8 [(AV.d (D.v (.bool Z1az))),(AV.d (D.v (.bool Z1b0))),(AV.sl 3 0 Z1b1 none 18),(AV.d (D.v (.bool Z1jz))),(AV.sl 4 0 Z1k0 none 34),(AV.d (D.v (.int .i64 Z1k1))),(AV.d (D.v (.int .i64 Z1k2))),(AV.d (D.v (.int .i64 Z1k3)))]),(Blk.d Z1k4 Z1k5),(Blk.d Z1k6 Z1k7),(Blk.d 34 Z1nd)]⟩
  (contK Tg Zd.sp ⟨0,[],false,[]⟩ (inlK Tg Zd m 4) m Zb (endK Tg Tryz.f19 endV) [.loop (bm 270 148) 5 (subc [1,1,1,0,1,0,0] (bodyOf Tryz.f19)) n0,.block 2,.code (subc [1,1,1,1] (bodyOf Tryz.f19))]))
theorem Ztx (m n0 : Nat) (Z1hy : Int) (Z1hz : Int) (Z1l0 : Nat) (Z1l1 : Option Nat) (Z1l2 : List D) (Z1l3 : Nat) (Z1l4 : Option Nat) (Z1l5 : List D) (Z1l6 : Int) (Z1l7 : Int) (Z1as : Int) (Z1at : Bool) (Z1au : Bool) (Z1av : Bool) (Z1aw : Int) (Z1ax : Int) (Z1ay : Int) (Z1az : Bool) (Z1b0 : Bool) (Z1b1 : Nat) (Z1jz : Bool) (Z1k0 : Nat) (Z1k1 : Int) (Z1k2 : Int) (Z1k3 : Int) (Z1k4 : Nat) (Z1k5 : List D) (Z1k6 : Nat) (Z1k7 : List D) (Z1nd : List D) : Zno m n0 Z1hy Z1hz Z1l0 Z1l1 Z1l2 Z1l3 Z1l4 Z1l5 Z1l6 Z1l7 Z1as Z1at Z1au Z1av Z1aw Z1ax Z1ay Z1az Z1b0 Z1b1 Z1jz Z1k0 Z1k1 Z1k2 Z1k3 Z1k4 Z1k5 Z1k6 Z1k7 Z1nd =
 (Z7w m n0 (IntKind.wrap .i64 (Z1hy + (1 : Int))) Z1hz Z1l0 Z1l1 Z1l2 Z1l3 Z1l4 Z1l5 Z1l6 Z1l7 Z1as Z1at Z1au Z1av Z1aw Z1ax Z1ay Z1az Z1b0 Z1b1 Z1jz Z1k0 Z1k1 Z1k2 Z1k3 Z1k4 Z1k5 Z1k6 Z1k7) := (Z12 m _).trans (by kernel_rfl)
theorem Zzu (m n0 n1 : Nat) (Z18v : Int) (Z1hf : Int) (Z12m : Int) (Zxa : Int) (Z16m : Nat) (Z14d : Option Nat) (Z16n : List D) (Z1n9 : Nat) (Z1ee : Option Nat) (Z1na : List D) (Z11t : Int) (Z11u : Int) (Z11v : Int) (Z11w : Bool) (Z11x : Bool) (Z11y : Bool) (Z11z : Int) (Z120 : Int) (Z121 : Int) (Z122 : Bool) (Z123 : Bool) (Z124 : Nat) (Z125 : Bool) (Z126 : Nat) (Z127 : Int) (Z128 : Int) (Z129 : Int) (Z12a : Nat) (Z12b : List D) (Z18j : Nat) (Z1be : List D) (Z12c : List D) : Zcs m n0 (n1 + 1) Z18v Z1hf Z12m Zxa Z16m Z14d Z16n Z1n9 Z1ee Z1na Z11t Z11u Z11v Z11w Z11x Z11y Z11z Z120 Z121 Z122 Z123 Z124 Z125 Z126 Z127 Z128 Z129 Z12a Z12b Z18j Z1be Z12c =
 (cond (decide (Z12m < (Z126 : Int)))
 (if 0 ≤ Z12m ∧ Z12m < (Z126 : Int) then
 if ((0 + ((Int.toNat Z12m) * 34)) + 34) ≤ Z18j then
 (cellsEq [.int,.int,.int,.int,.int,.int,.int,.int,.int,.int,.int,.int,.int,.int,.int,.int,.int,.int,.int,.int,.int,.int,.int,.int,.int,.int,.int,.int,.int,.int,.int,.int,.int,.int] (cutL Z18j Z1be (0 + ((Int.toNat Z12m) * 34)) 34) Z12c).bind fun b111 =>
 cond b111
 (Zkm m n0 n1 Z18v (0 : Int) Z12m Zxa Z16m Z14d Z16n Z1n9 Z1ee Z1na Z11t Z11u Z11v Z11w Z11x Z11y Z11z Z120 Z121 Z122 Z123 Z124 Z125 Z126 Z127 Z128 Z129 Z12a Z12b Z18j Z1be Z12c)
 (Zkm m n0 n1 Z18v Z1hf Z12m Zxa Z16m Z14d Z16n Z1n9 Z1ee Z1na Z11t Z11u Z11v Z11w Z11x Z11y Z11z Z120 Z121 Z122 Z123 Z124 Z125 Z126 Z127 Z128 Z129 Z12a Z12b Z18j Z1be Z12c)
 else none
 else none)
 (cond (Z1hf == (1 : Int))
 (if (List.length Z12c) = 34 then
 if ownB ⟨0,[],false,[]⟩ 4 = true ∧ Z18j = (Z126 * 34) ∧ Z4y (Z126 + 1) 136 ∧ (List.length Z12c) = 34 then
 Zr5 m n0 Z18v Zxa Z16m Z14d Z16n Z1n9 Z1ee Z1na Z11t Z11u Z11v Z11w Z11x Z11y Z11z Z120 Z121 Z122 Z123 Z124 Z125 (Z126 + 1) Z127 Z128 Z129 Z12a Z12b ((Z126 + 1) * 34) (Z1be ++ Z12c) Z12c Z12c
 else none
 else none)
 (Zno m n0 Z18v Zxa Z16m Z14d Z16n Z1n9 Z1ee Z1na Z11t Z11u Z11v Z11w Z11x Z11y Z11z Z120 Z121 Z122 Z123 Z124 Z125 Z126 Z127 Z128 Z129 Z12a Z12b Z18j Z1be Z12c))) := by kernel_rfl
theorem Znp (m n0 : Nat) (Z1hs : Int) (Z1ht : Int) (Z1kc : Nat) (Z1kd : Option Nat) (Z1ke : List D) (Z1kf : Nat) (Z1kg : Option Nat) (Z1kh : List D) (Z1ki : Int) (Z1kj : Int) (Z19y : Int) (Z19z : Bool) (Z1a0 : Bool) (Z1a1 : Bool) (Z1a2 : Int) (Z1a3 : Int) (Z1a4 : Int) (Z1a5 : Bool) (Z1a6 : Bool) (Z1a7 : Nat) (Z1j4 : Bool) (Z1j5 : Nat) (Z1j6 : Int) (Z1j7 : Int) (Z1j8 : Int) (Z1j9 : Nat) (Z1ja : List D) (Z1jb : Nat) (Z1jc : List D) (Z1jd : List D) : Zkl m n0 Z1hs Z1ht Z1kc Z1kd Z1ke Z1kf Z1kg Z1kh Z1ki Z1kj Z19y Z19z Z1a0 Z1a1 Z1a2 Z1a3 Z1a4 Z1a5 Z1a6 Z1a7 Z1j4 Z1j5 Z1j6 Z1j7 Z1j8 Z1j9 Z1ja Z1jb Z1jc Z1jd =
 (Zcs m n0 m Z1hs (1 : Int) (0 : Int) Z1ht Z1kc Z1kd Z1ke Z1kf Z1kg Z1kh Z1ki Z1kj Z19y Z19z Z1a0 Z1a1 Z1a2 Z1a3 Z1a4 Z1a5 Z1a6 Z1a7 Z1j4 Z1j5 Z1j6 Z1j7 Z1j8 Z1j9 Z1ja Z1jb Z1jc Z1jd) := (Z12 m _).trans (by kernel_rfl)
theorem Zxc (m n0 : Nat) (Z1d7 : Int) (Z1f3 : Int) (Z1ic : Nat) (Z1id : Option Nat) (Z1ie : List D) (Z1hq : Nat) (Z1if : Option Nat) (Z1hr : List D) (Z1ig : Int) (Z1ih : Int) (Z17y : Int) (Z17z : Bool) (Z180 : Bool) (Z181 : Bool) (Z182 : Int) (Z183 : Int) (Z184 : Int) (Z185 : Bool) (Z186 : Bool) (Z187 : Nat) (Z1h5 : Bool) (Z1h6 : Nat) (Z1h7 : Int) (Z1h8 : Int) (Z1h9 : Int) (Z1ha : Nat) (Z1hb : List D) (Z1hc : Nat) (Z1hd : List D) (Z1he : List D) : Zex m n0 Z1d7 Z1f3 Z1ic Z1id Z1ie Z1hq Z1if Z1hr Z1ig Z1ih Z17y Z17z Z180 Z181 Z182 Z183 Z184 Z185 Z186 Z187 Z1h5 Z1h6 Z1h7 Z1h8 Z1h9 Z1ha Z1hb Z1hc Z1hd Z1he =
 (if 0 ≤ Z1d7 ∧ Z1d7 < (Z1hq : Int) then
 (rdI .u8 Z1hr[((Int.toNat Z1d7) * 1)]?).bind fun x106 =>
 cond (x106 == (255 : Int))
 ((Z8i []).bind fun d107 =>
 (rdA (some d107)).bind fun c108 =>
 if (List.length c108) = 17 then
 Zkl m n0 Z1d7 Z1f3 Z1ic Z1id Z1ie Z1hq Z1if Z1hr Z1ig Z1ih Z17y Z17z Z180 Z181 Z182 Z183 Z184 Z185 Z186 Z187 Z1h5 Z1h6 Z1h7 Z1h8 Z1h9 Z1ha Z1hb Z1hc Z1hd (putL 34 Z1he 17 17 c108)
 else none)
 (Zkl m n0 Z1d7 Z1f3 Z1ic Z1id Z1ie Z1hq Z1if Z1hr Z1ig Z1ih Z17y Z17z Z180 Z181 Z182 Z183 Z184 Z185 Z186 Z187 Z1h5 Z1h6 Z1h7 Z1h8 Z1h9 Z1ha Z1hb Z1hc Z1hd Z1he)
 else none) := (Z12 m _).trans (by kernel_rfl)
theorem Zxd (m n0 : Nat) (Zrb : Int) (Z13q : Int) (Z154 : Nat) (Z18s : Option Nat) (Z17t : List D) (Z14x : Nat) (Z17u : Option Nat) (Z14y : List D) (Z17v : Int) (Z18t : Int) (Zp8 : Int) (Zp9 : Bool) (Zpa : Bool) (Zyl : Bool) (Ztw : Int) (Zym : Int) (Zyn : Int) (Zyo : Bool) (Z17w : Bool) (Z17x : Nat) (Z1gw : Bool) (Z1gx : Nat) (Z1gy : Int) (Z1gz : Int) (Z1h0 : Int) (Z1h1 : Nat) (Z1h2 : List D) (Z1h3 : Nat) (Z1h4 : List D) : Zr4 m n0 Zrb Z13q Z154 Z18s Z17t Z14x Z17u Z14y Z17v Z18t Zp8 Zp9 Zpa Zyl Ztw Zym Zyn Zyo Z17w Z17x Z1gw Z1gx Z1gy Z1gz Z1h0 Z1h1 Z1h2 Z1h3 Z1h4 =
 (if 0 ≤ Zrb ∧ Zrb < (Z14x : Int) then
 (rdI .u8 Z14y[((Int.toNat Zrb) * 1)]?).bind fun x97 =>
 (Z4g [(D.v (.int .u8 (Int.tmod x97 (6 : Int))))]).bind fun d98 =>
 (rdA (some d98)).bind fun c99 =>
 if 0 ≤ Zrb ∧ Zrb < (Z14x : Int) then
 (rdI .u8 Z14y[((Int.toNat Zrb) * 1)]?).bind fun x100 =>
 (Z4g [(D.v (.int .u8 (Int.tmod (IntKind.wrap .u8 (Int.tdiv x100 (6 : Int))) (6 : Int))))]).bind fun d101 =>
 (rdA (some d101)).bind fun c102 =>
 if (List.length c99) = 17 then
 if (List.length c102) = 17 then
 if (List.length (putL 34 (putL 34 [(D.v (.int .u8 (0 : Int))),zU,zU,zU,zU,zU,zU,zU,zU,zU,zU,zU,zU,zU,zU,zU,zU,(D.v (.int .u8 (0 : Int))),zU,zU,zU,zU,zU,zU,zU,zU,zU,zU,zU,zU,zU,zU,zU,zU] 0 17 c99) 17 17 c102)) = 34 then
 if 0 ≤ Zrb ∧ Zrb < (Z14x : Int) then
 (rdI .u8 Z14y[((Int.toNat Zrb) * 1)]?).bind fun x103 =>
 cond (x103 == (254 : Int))
 ((Z8i []).bind fun d104 =>
 (rdA (some d104)).bind fun c105 =>
 if (List.length c105) = 17 then
 Zex m n0 Zrb Z13q Z154 Z18s Z17t Z14x Z17u Z14y Z17v Z18t Zp8 Zp9 Zpa Zyl Ztw Zym Zyn Zyo Z17w Z17x Z1gw Z1gx Z1gy Z1gz Z1h0 Z1h1 Z1h2 Z1h3 Z1h4 (putL 34 (putL 34 (putL 34 [(D.v (.int .u8 (0 : Int))),zU,zU,zU,zU,zU,zU,zU,zU,zU,zU,zU,zU,zU,zU,zU,zU,(D.v (.int .u8 (0 : Int))),zU,zU,zU,zU,zU,zU,zU,zU,zU,zU,zU,zU,zU,zU,zU,zU] 0 17 c99) 17 17 c102) 0 17 c105)
 else none)
 (Zex m n0 Zrb Z13q Z154 Z18s Z17t Z14x Z17u Z14y Z17v Z18t Zp8 Zp9 Zpa Zyl Ztw Zym Zyn Zyo Z17w Z17x Z1gw Z1gx Z1gy Z1gz Z1h0 Z1h1 Z1h2 Z1h3 Z1h4 (putL 34 (putL 34 [(D.v (.int .u8 (0 : Int))),zU,zU,zU,zU,zU,zU,zU,zU,zU,zU,zU,zU,zU,zU,zU,zU,(D.v (.int .u8 (0 : Int))),zU,zU,zU,zU,zU,zU,zU,zU,zU,zU,zU,zU,zU,zU,zU,zU] 0 17 c99) 17 17 c102))
 else none
 else none
 else none
 else none
 else none
 else none) := (Z12 m _).trans (by kernel_rfl)
noncomputable def Z66 (m : Nat) (Z188 : Int) (Z189 : Nat) (Z1cd : Option Nat) (Z1ce : List D) (Z1cf : Nat) (Z1cg : Option Nat) (Z1ch : List D) (Z1ci : Int) (Z1cj : Int) (Z1ck : Int) (Z13r : Bool) (Z13s : Bool) (Z13t : Bool) (Z13u : Int) (Z13v : Int) (Z13w : Int) (Z10g : Bool) (Z13x : Bool) (Zsz : Nat) (Z13y : Bool) (Z14e : Nat) (Z1da : Int) (Z1db : Int) (Z1dc : Int) (Z1bf : Nat) (Z1dd : List D) (Z1bg : Nat) (Z1de : List D) : Option D :=
 cutK m (codeK Tg Zd.sp ⟨0,[],false,[]⟩ (inlK Tg Zd m 4) m Zb (subc [1,1,1,1] (bodyOf Tryz.f19)) ⟨[Jk,Jk,(AV.ptr 1 0),(AV.ptr 2 0),Jk,Jk,Jk,Jk,Jk,Jk,Jk,Jk,Jk,Jk,Jk,Jk,Jk,Jk,Jk,Jk,Jk,Jk,Jk,Jk,Jk,Jk,Jk,Jk,Jk,Jk,Jk,Jk,Jk,Jk,Jk,Jk,Jk,Jk,Jk,Jk,Jk,Jk,Jk,Jk,Jk,Jk,Jk,Jk,Jk,Jk,Jk,Jk,Jk,Jk,Jk,Jk,Jk,Jk,Jk,Jk,Jk,Jk,Jk,Jk,Jk,Jk,Jk,Jk,Jk,Jk,Jk,Jk,Jk,Jk,Jk,Jk,Jk,Jk,Jk,Jk,Jk,Jk,Jk,Jk,Jk,Jk,Jk,Jk,Jk,Jk,Jk,Jk,Jk,Jk,Jk,Jk,Jk,Jk,Jk,Jk,Jk,Jk,Jk,Jk,Jk,Jk,Jk,Jk,Jk,Jk,Jk,Jk,Jk,Jk,Jk,Jk,Jk,Jk,Jk,Jk,Jk,Jk,Jk,Jk,Jk,Jk,Jk,Jk,Jk,Jk,Jk,Jk,Jk,Jk,Jk,Jk,Jk,Jk,Jk,Jk,Jk,Jk,Jk,Jk,Jk,Jk,Jk,Jk],[(Blk.d 6 [(D.v (.int .u8 Z188)),(D.list Z189 Z1cd Z1ce),(D.list Z1cf Z1cg Z1ch),(D.v (.int .u8 Z1ci)),(D.v (.int .u8 Z1cj)),(D.v (.int .u8 Z1ck))]),(Blk.d 8 [(D.v (.bool Z13r)),(D.v (.bool Z13s)),(D.list 0 (some 0) []),(D.v (.bool Z13t)),(D.list 0 (some 0) []),(D.v (.int .i64 Z13u)),(D.v (.int .i64 Z13v)),(D.v (.int .i64 Z13w))]),(Blk.a 8 [(AV.d (D.v (.bool Z10g))),(AV.d (D.v (.bool Z13x))),(AV.sl 3 0 Zsz none 18),(AV.d (D.v (.bool Z13y))),(AV.sl 4 0 Z14e none 34),(AV.d (D.v (.int .i64 Z1da))),(AV.d (D.v (.int .i64 Z1db))),(AV.d (D.v (.int .i64 Z1dc)))]),(Blk.d Z1bf Z1dd),(Blk.d Z1bg Z1de)]⟩
  (contK Tg Zd.sp ⟨0,[],false,[]⟩ (inlK Tg Zd m 4) m Zb (endK Tg Tryz.f19 endV) []))
theorem Zxe (m : Nat) (Z188 : Int) (Z189 : Nat) (Z1cd : Option Nat) (Z1ce : List D) (Z1cf : Nat) (Z1cg : Option Nat) (Z1ch : List D) (Z1ci : Int) (Z1cj : Int) (Z1ck : Int) (Z13r : Bool) (Z13s : Bool) (Z13t : Bool) (Z13u : Int) (Z13v : Int) (Z13w : Int) (Z10g : Bool) (Z13x : Bool) (Zsz : Nat) (Z13y : Bool) (Z14e : Nat) (Z1da : Int) (Z1db : Int) (Z1dc : Int) (Z1bf : Nat) (Z1dd : List D) (Z1bg : Nat) (Z1de : List D) : Z66 m Z188 Z189 Z1cd Z1ce Z1cf Z1cg Z1ch Z1ci Z1cj Z1ck Z13r Z13s Z13t Z13u Z13v Z13w Z10g Z13x Zsz Z13y Z14e Z1da Z1db Z1dc Z1bf Z1dd Z1bg Z1de =
 (if (0 + (Zsz * 18)) ≤ Z1bf then
 if (0 + (Z14e * 34)) ≤ Z1bg then
 some (D.agg [(D.v (.bool Z10g)),(D.v (.bool (decide ((Zsz : Int) > (0 : Int))))),(D.list Zsz none (cutL Z1bf Z1dd 0 (Zsz * 18))),(D.v (.bool (decide ((Z14e : Int) > (0 : Int))))),(D.list Z14e none (cutL Z1bg Z1de 0 (Z14e * 34))),(D.v (.int .i64 Z1da)),(D.v (.int .i64 Z1db)),(D.v (.int .i64 Z1dc))])
 else none
 else none) := (Z12 m _).trans (by kernel_rfl)
theorem Zzv (m n0 : Nat) (Z18u : Int) (Zze : Int) (Z15s : Nat) (Z16i : Option Nat) (Z16j : List D) (Z1d9 : Nat) (Z15t : Option Nat) (Z1e9 : List D) (Z16k : Int) (Z16l : Int) (Zm3 : Int) (Zzf : Bool) (Zzg : Bool) (Zzh : Bool) (Zzi : Int) (Zzj : Int) (Zzk : Int) (Zzl : Bool) (Zzm : Bool) (Zzn : Nat) (Zzo : Bool) (Z1cn : Nat) (Zzp : Int) (Zzq : Int) (Zzr : Int) (Zzs : Nat) (Zzt : List D) (Z1ea : Nat) (Z1eb : List D) : Z7w m (n0 + 1) Z18u Zze Z15s Z16i Z16j Z1d9 Z15t Z1e9 Z16k Z16l Zm3 Zzf Zzg Zzh Zzi Zzj Zzk Zzl Zzm Zzn Zzo Z1cn Zzp Zzq Zzr Zzs Zzt Z1ea Z1eb =
 (cond (decide (Z18u < (Z1d9 : Int)))
 (cond (decide ((Z1cn : Int) < (4 : Int)))
 (Zr4 m n0 Z18u Zze Z15s Z16i Z16j Z1d9 Z15t Z1e9 Z16k Z16l Zm3 Zzf Zzg Zzh Zzi Zzj Zzk Zzl Zzm Zzn Zzo Z1cn Zzp Zzq Zzr Zzs Zzt Z1ea Z1eb)
 (Z66 m Zze Z15s Z16i Z16j Z1d9 Z15t Z1e9 Z16k Z16l Zm3 Zzf Zzg Zzh Zzi Zzj Zzk Zzl Zzm Zzn Zzo Z1cn Zzp Zzq Zzr Zzs Zzt Z1ea Z1eb))
 (Z66 m Zze Z15s Z16i Z16j Z1d9 Z15t Z1e9 Z16k Z16l Zm3 Zzf Zzg Zzh Zzi Zzj Zzk Zzl Zzm Zzn Zzo Z1cn Zzp Zzq Zzr Zzs Zzt Z1ea Z1eb)) := by kernel_rfl
theorem Zzw (m : Nat) (Ztv : Int) (Zve : Nat) (Zxo : Option Nat) (Zxp : List D) (Zvf : Nat) (Zvg : Option Nat) (Zvh : List D) (Zvi : Int) (Zvj : Int) (Zxq : Int) (Zhx : Bool) (Zhy : Bool) (Zhz : Bool) (Zlp : Int) (Zp4 : Int) (Zp5 : Int) (Zp6 : Bool) (Zp7 : Bool) (Z19w : Nat) (Z19x : Bool) (Z1iz : Int) (Z1j0 : Int) (Z1j1 : Int) (Z1j2 : Nat) (Z1j3 : List D) : Zhk m Ztv Zve Zxo Zxp Zvf Zvg Zvh Zvi Zvj Zxq Zhx Zhy Zhz Zlp Zp4 Zp5 Zp6 Zp7 Z19w Z19x Z1iz Z1j0 Z1j1 Z1j2 Z1j3 =
 (Z7w m m (0 : Int) Ztv Zve Zxo Zxp Zvf Zvg Zvh Zvi Zvj Zxq Zhx Zhy Zhz Zlp Zp4 Zp5 Zp6 Zp7 Z19w Z19x 0 Z1iz Z1j0 Z1j1 Z1j2 Z1j3 0 []) := (Z12 m _).trans (by kernel_rfl)
theorem Z12d (m n0 : Nat) (Z2h : Int) (Z3b : Int) (Z25 : Nat) (Z2p : Option Nat) (Z1q : List D) (Z48 : Nat) (Z49 : Option Nat) (Z4p : List D) (Z57 : Int) (Z6o : Int) (Z2l : Int) (Z2k : Bool) (Z3o : Bool) (Z3y : Bool) (Z45 : Int) (Zkk : Int) (Zm1 : Int) (Zm2 : Bool) (Zv6 : Bool) (Zzb : Nat) (Zv7 : Bool) (Zv8 : Int) (Z18h : Int) (Z18i : Int) (Z1e7 : Nat) (Z1e8 : List D) : Z9p m (n0 + 1) Z2h Z3b Z25 Z2p Z1q Z48 Z49 Z4p Z57 Z6o Z2l Z2k Z3o Z3y Z45 Zkk Zm1 Zm2 Zv6 Zzb Zv7 Zv8 Z18h Z18i Z1e7 Z1e8 =
 (cond (decide (Z2h < (Z25 : Int)))
 (cond (decide ((Zzb : Int) < (4 : Int)))
 (Zt6 m n0 Z2h Z3b Z25 Z2p Z1q Z48 Z49 Z4p Z57 Z6o Z2l Z2k Z3o Z3y Z45 Zkk Zm1 Zm2 Zv6 Zzb Zv7 Zv8 Z18h Z18i Z1e7 Z1e8)
 (Zhk m Z3b Z25 Z2p Z1q Z48 Z49 Z4p Z57 Z6o Z2l Z2k Z3o Z3y Z45 Zkk Zm1 Zm2 Zv6 Zzb Zv7 Zv8 Z18h Z18i Z1e7 Z1e8))
 (Zhk m Z3b Z25 Z2p Z1q Z48 Z49 Z4p Z57 Z6o Z2l Z2k Z3o Z3y Z45 Zkk Zm1 Zm2 Zv6 Zzb Zv7 Zv8 Z18h Z18i Z1e7 Z1e8)) := by kernel_rfl
noncomputable def Znq (m : Nat) (a0_0 : Int) (a0_1n : Nat) (a0_1c : Option Nat) (a0_1 : List D) (a0_2n : Nat) (a0_2c : Option Nat) (a0_2 : List D) (a0_3 : Int) (a0_4 : Int) (a0_5 : Int) : Option D :=
 (Z6r [(D.v (.int .u8 a0_3))]).bind fun d1 =>
 (rdI .i64 (some d1)).bind fun x2 =>
 (Z6r [(D.v (.int .u8 a0_4))]).bind fun d3 =>
 (rdI .i64 (some d3)).bind fun x4 =>
 (Z6r [(D.v (.int .u8 a0_5))]).bind fun d5 =>
 (rdI .i64 (some d5)).bind fun x6 =>
 Z9p m m (0 : Int) a0_0 a0_1n a0_1c a0_1 a0_2n a0_2c a0_2 a0_3 a0_4 a0_5 false false false (0 : Int) (0 : Int) (0 : Int) ((Int.tmod a0_0 (2 : Int)) == (1 : Int)) false 0 false x2 x4 x6 0 []
theorem Z14f (m : Nat) (a0_0 : Int) (a0_1n : Nat) (a0_1c : Option Nat) (a0_1 : List D) (a0_2n : Nat) (a0_2c : Option Nat) (a0_2 : List D) (a0_3 : Int) (a0_4 : Int) (a0_5 : Int) : funD Tg Zd m 4 Zb Tryz.f19 [(D.agg [(D.v (.int .u8 a0_0)),(D.list a0_1n a0_1c a0_1),(D.list a0_2n a0_2c a0_2),(D.v (.int .u8 a0_3)),(D.v (.int .u8 a0_4)),(D.v (.int .u8 a0_5))])] = Znq m a0_0 a0_1n a0_1c a0_1 a0_2n a0_2c a0_2 a0_3 a0_4 a0_5 := by kernel_rfl
theorem Z18k : Enters Tg 19 := ⟨Tryz.f19,Tryz.func19,by kernel_rfl,by kernel_rfl⟩
theorem Z18l {ds : List D} {d : D} (h : funD Tg Zd M 4 Zb Tryz.f19 ds = some d) : DataSem Tg 19 ds d := Zo (H := Zd) (SpOk.cons Zt4 (SpOk.cons Z10h (SpOk.cons Z15q (SpOk.cons Z15n SpOk.nil)))) mixed (InlOk.cons Tryz.func74 Zv5 InlOk.nil) Tryz.func19 Z18k h
noncomputable def Zdq : List D → Option D
 | [.agg [.v (.int .u8 a0_0),.list a0_1n a0_1c a0_1,.list a0_2n a0_2c a0_2,.v (.int .u8 a0_3),.v (.int .u8 a0_4),.v (.int .u8 a0_5)]] => Znq M a0_0 a0_1n a0_1c a0_1 a0_2n a0_2c a0_2 a0_3 a0_4 a0_5
 | _ => none
theorem Z18m : ∀ ds d,Zdq ds = some d → DataSem Tg 19 ds d := by
 intro ds d h
 unfold Zdq at h
 split at h
 ·exact Z18l ((Z14f M _ _ _ _ _ _ _ _ _ _).trans h)
 ·cases h
def Zu : FnH := ⟨[(3,⟨(bm 58 70),[(4,8)],(some 3),none⟩),(10,⟨(bm 218 70),[],(some 4),none⟩)],[(5,⟨(bm 58 70),[],(some 3),none⟩),(6,⟨(bm 26 70),[],(some 3),none⟩),(8,⟨(bm 26 70),[],(some 3),none⟩),(11,⟨(bm 218 70),[],(some 4),none⟩)]⟩
noncomputable def Z1k : Hints := ⟨[(19,Zdq),(56,Z4g),(80,Zk3)],[],[]⟩
noncomputable def Zj3 (m n0 : Nat) (Z2h : Nat) (Z3b : Int) (Z25 : Nat) (Z2p : Option Nat) (Z1q : List D) (Z48 : Int) (Z49 : Int) (Z4p : Bool) (Z57 : Bool) (Z6o : Bool) (Z2l : Nat) (Z2k : List D) : Option D :=
 Z26 (bm 58 70) 0 3 (codeK Tg Z1k.sp ⟨0,[],false,[]⟩ (inlK Tg Z1k m 4) m Zu (subc [1,1,0,1,0,0] (bodyOf Tryz.f25))) n0 ⟨[Jk,(AV.ptr 0 0),Jk,(AV.ptr 1 0),(AV.sl 2 0 Z2h none 8),(AV.d (D.v (.int .i64 Z3b))),Jk,Jk,Jk,Jk,Jk,Jk,Jk,Jk,Jk,Jk,Jk,Jk,Jk,Jk,Jk,Jk,Jk,Jk,Jk,Jk,Jk,Jk,Jk,Jk,Jk,Jk,Jk,Jk,Jk,Jk,Jk,Jk,Jk,Jk,Jk,Jk,Jk,Jk,Jk,Jk,Jk,Jk,Jk,Jk,Jk,Jk,Jk,Jk,Jk,Jk,Jk,Jk,Jk,Jk,Jk,Jk,Jk,Jk,Jk,Jk,Jk,Jk,Jk,Jk],[(Blk.d 3 [(D.list Z25 Z2p Z1q),(D.v (.int .u8 Z48)),(D.v (.int .u8 Z49))]),(Blk.d 4 [(D.list 0 (some 0) []),(D.v (.bool Z4p)),(D.v (.bool Z57)),(D.v (.bool Z6o))]),(Blk.d Z2l Z2k)]⟩
  (contK Tg Z1k.sp ⟨0,[],false,[]⟩ (inlK Tg Z1k m 4) m Zu (endK Tg Tryz.f25 endV) [.block 0,.code (subc [1,1,1] (bodyOf Tryz.f25))])
noncomputable def Zt8 (m n0 : Nat) (Z3v : Nat) (Z4x : Int) (Z44 : Nat) (Z5s : Option Nat) (Z5q : List D) (Z81 : Int) (Z6g : Int) (Z8e : Bool) (Z6y : Bool) (Ze7 : Bool) (Z5i : Nat) (Z56 : List D) : Option D :=
 cutK m (codeK Tg Z1k.sp ⟨0,[],false,[]⟩ (inlK Tg Z1k m 4) m Zu (subc [1,1,0,1,0,0,1] (bodyOf Tryz.f25)) ⟨[Jk,(AV.ptr 0 0),Jk,(AV.ptr 1 0),(AV.sl 2 0 Z3v none 8),(AV.d (D.v (.int .i64 Z4x))),Jk,Jk,Jk,Jk,Jk,Jk,Jk,Jk,Jk,Jk,Jk,Jk,Jk,Jk,Jk,Jk,Jk,Jk,Jk,Jk,Jk,Jk,Jk,Jk,Jk,Jk,Jk,Jk,Jk,Jk,Jk,Jk,Jk,Jk,Jk,Jk,Jk,Jk,Jk,Jk,Jk,Jk,Jk,Jk,Jk,Jk,Jk,Jk,Jk,Jk,Jk,Jk,Jk,Jk,Jk,Jk,Jk,Jk,Jk,Jk,Jk,Jk,Jk,Jk],[(Blk.d 3 [(D.list Z44 Z5s Z5q),(D.v (.int .u8 Z81)),(D.v (.int .u8 Z6g))]),(Blk.d 4 [(D.list 0 (some 0) []),(D.v (.bool Z8e)),(D.v (.bool Z6y)),(D.v (.bool Ze7))]),(Blk.d Z5i Z56)]⟩
  (contK Tg Z1k.sp ⟨0,[],false,[]⟩ (inlK Tg Z1k m 4) m Zu (endK Tg Tryz.f25 endV) [.loop (bm 58 70) 3 (subc [1,1,0,1,0,0] (bodyOf Tryz.f25)) n0,.block 0,.code (subc [1,1,1] (bodyOf Tryz.f25))]))
theorem Zzx (m n0 : Nat) (Z3v : Nat) (Z4x : Int) (Z44 : Nat) (Z5s : Option Nat) (Z5q : List D) (Z81 : Int) (Z6g : Int) (Z8e : Bool) (Z6y : Bool) (Ze7 : Bool) (Z5i : Nat) (Z56 : List D) : Zt8 m n0 Z3v Z4x Z44 Z5s Z5q Z81 Z6g Z8e Z6y Ze7 Z5i Z56 =
 (if 0 ≤ Z4x ∧ Z4x < (Z44 : Int) then
 if (((Int.toNat Z4x) * 6) + 6) ≤ (List.length Z5q) then
 (Zdq [(D.agg ((List.drop ((Int.toNat Z4x) * 6) Z5q).take 6))]).bind fun d5 =>
 (rdA (some d5)).bind fun c6 =>
 if (List.length c6) = 8 then
 if ownB ⟨0,[],false,[]⟩ 2 = true ∧ Z5i = (Z3v * 8) ∧ Z4y (Z3v + 1) 88 ∧ (List.length c6) = 8 then
 Zj3 m n0 (Z3v + 1) (IntKind.wrap .i64 (Z4x + (1 : Int))) Z44 Z5s Z5q Z81 Z6g Z8e Z6y Ze7 ((Z3v + 1) * 8) (Z56 ++ c6)
 else none
 else none
 else none
 else none) := (Z12 m _).trans (by kernel_rfl)
noncomputable def Zhl (m : Nat) (Zfi : Nat) (Zjz : Nat) (Zkq : Option Nat) (Zlm : List D) (Zne : Int) (Zk0 : Int) (Zm8 : Bool) (Znf : Bool) (Zmd : Bool) (Zpk : Nat) (Zbr : List D) : Option D :=
 cutK m (codeK Tg Z1k.sp ⟨0,[],false,[]⟩ (inlK Tg Z1k m 4) m Zu (subc [1,1,1] (bodyOf Tryz.f25)) ⟨[Jk,(AV.ptr 0 0),Jk,(AV.ptr 1 0),(AV.sl 2 0 Zfi none 8),Jk,Jk,Jk,Jk,Jk,Jk,Jk,Jk,Jk,Jk,Jk,Jk,Jk,Jk,Jk,Jk,Jk,Jk,Jk,Jk,Jk,Jk,Jk,Jk,Jk,Jk,Jk,Jk,Jk,Jk,Jk,Jk,Jk,Jk,Jk,Jk,Jk,Jk,Jk,Jk,Jk,Jk,Jk,Jk,Jk,Jk,Jk,Jk,Jk,Jk,Jk,Jk,Jk,Jk,Jk,Jk,Jk,Jk,Jk,Jk,Jk,Jk,Jk,Jk,Jk],[(Blk.d 3 [(D.list Zjz Zkq Zlm),(D.v (.int .u8 Zne)),(D.v (.int .u8 Zk0))]),(Blk.d 4 [(D.list 0 (some 0) []),(D.v (.bool Zm8)),(D.v (.bool Znf)),(D.v (.bool Zmd))]),(Blk.d Zpk Zbr)]⟩
  (contK Tg Z1k.sp ⟨0,[],false,[]⟩ (inlK Tg Z1k m 4) m Zu (endK Tg Tryz.f25 endV) []))
noncomputable def Zhm (m : Nat) (Zo3 : Nat) (Zme : Nat) (Zoa : Option Nat) (Zox : List D) (Zsv : Int) (Znh : Int) (Zsw : Bool) (Zsx : Bool) (Zsy : Bool) (Zvd : Nat) (Zg4 : List D) : Option D :=
 cutK m (codeK Tg Z1k.sp ⟨0,[],false,[]⟩ (inlK Tg Z1k m 4) m Zu (subc [1,1,1,1] (bodyOf Tryz.f25)) ⟨[Jk,(AV.ptr 0 0),Jk,(AV.ptr 1 0),(AV.sl 2 0 Zo3 none 8),Jk,Jk,Jk,Jk,Jk,Jk,Jk,Jk,Jk,Jk,Jk,Jk,Jk,Jk,Jk,Jk,Jk,Jk,Jk,Jk,Jk,Jk,Jk,Jk,Jk,Jk,Jk,Jk,Jk,Jk,Jk,Jk,Jk,Jk,Jk,Jk,Jk,Jk,Jk,Jk,Jk,Jk,Jk,Jk,Jk,Jk,Jk,Jk,Jk,Jk,Jk,Jk,Jk,Jk,Jk,Jk,Jk,Jk,Jk,Jk,Jk,Jk,Jk,Jk,Jk],[(Blk.d 3 [(D.list Zme Zoa Zox),(D.v (.int .u8 Zsv)),(D.v (.int .u8 Znh))]),(Blk.d 4 [(D.list 0 (some 0) []),(D.v (.bool Zsw)),(D.v (.bool Zsx)),(D.v (.bool Zsy))]),(Blk.d Zvd Zg4)]⟩
  (contK Tg Z1k.sp ⟨0,[],false,[]⟩ (inlK Tg Z1k m 4) m Zu (endK Tg Tryz.f25 endV) []))
noncomputable def Zhn (m n0 : Nat) (Zft : Nat) (Zij : Int) (Zg7 : Nat) (Zk9 : Option Nat) (Zhu : List D) (Zrl : Int) (Zo2 : Int) (Zr8 : Bool) (Zng : Bool) (Zvc : Bool) (Zh3 : Nat) (Zhv : List D) (Zk1 : Nat) (Zh4 : Option Nat) (Zl2 : List D) (Zhi : Bool) (Zi1 : Bool) (Zg6 : Bool) : Option D :=
 Z26 (bm 218 70) 0 4 (codeK Tg Z1k.sp ⟨0,[],false,[]⟩ (inlK Tg Z1k m 4) m Zu (subc [1,1,1,1,1,0,1,0,0] (bodyOf Tryz.f25))) n0 ⟨[Jk,(AV.ptr 0 0),Jk,(AV.ptr 1 0),(AV.sl 2 0 Zft none 8),Jk,(AV.ptr 3 0),(AV.d (D.v (.int .i64 Zij))),Jk,Jk,Jk,Jk,Jk,Jk,Jk,Jk,Jk,Jk,Jk,Jk,Jk,Jk,Jk,Jk,Jk,Jk,Jk,Jk,Jk,Jk,Jk,Jk,Jk,Jk,Jk,Jk,Jk,Jk,Jk,Jk,Jk,Jk,Jk,Jk,Jk,Jk,Jk,Jk,Jk,Jk,Jk,Jk,Jk,Jk,Jk,Jk,Jk,Jk,Jk,Jk,Jk,Jk,Jk,Jk,Jk,Jk,Jk,Jk,Jk,Jk],[(Blk.d 3 [(D.list Zg7 Zk9 Zhu),(D.v (.int .u8 Zrl)),(D.v (.int .u8 Zo2))]),(Blk.d 4 [(D.list 0 (some 0) []),(D.v (.bool Zr8)),(D.v (.bool Zng)),(D.v (.bool Zvc))]),(Blk.d Zh3 Zhv),(Blk.d 4 [(D.list Zk1 Zh4 Zl2),(D.v (.bool Zhi)),(D.v (.bool Zi1)),(D.v (.bool Zg6))])]⟩
  (contK Tg Z1k.sp ⟨0,[],false,[]⟩ (inlK Tg Z1k m 4) m Zu (endK Tg Tryz.f25 endV) [.block 2,.code (subc [1,1,1,1,1,1] (bodyOf Tryz.f25))])
noncomputable def Zey (m n0 : Nat) (Ztv : Nat) (Zve : Int) (Zxo : Nat) (Zxp : Option Nat) (Zvf : List D) (Zvg : Int) (Zvh : Int) (Zvi : Bool) (Zvj : Bool) (Zxq : Bool) (Zhx : Nat) (Zhy : List D) (Zhz : Nat) (Zlp : Option Nat) (Zp4 : List D) (Zp5 : Bool) (Zp6 : Bool) (Zp7 : Bool) : Option D :=
 cutK m (codeK Tg Z1k.sp ⟨0,[],false,[]⟩ (inlK Tg Z1k m 4) m Zu (subc [1,1,1,1,1,0,1,0,0,1,1] (bodyOf Tryz.f25)) ⟨[Jk,(AV.ptr 0 0),Jk,(AV.ptr 1 0),(AV.sl 2 0 Ztv none 8),Jk,(AV.ptr 3 0),(AV.d (D.v (.int .i64 Zve))),Jk,Jk,Jk,Jk,Jk,Jk,Jk,Jk,Jk,Jk,Jk,Jk,Jk,Jk,Jk,Jk,Jk,Jk,Jk,Jk,Jk,Jk,Jk,Jk,Jk,Jk,Jk,Jk,Jk,Jk,Jk,Jk,Jk,Jk,Jk,Jk,Jk,Jk,Jk,Jk,Jk,Jk,Jk,Jk,Jk,Jk,Jk,Jk,Jk,Jk,Jk,Jk,Jk,Jk,Jk,Jk,Jk,Jk,Jk,Jk,Jk,Jk],[(Blk.d 3 [(D.list Zxo Zxp Zvf),(D.v (.int .u8 Zvg)),(D.v (.int .u8 Zvh))]),(Blk.d 4 [(D.list 0 (some 0) []),(D.v (.bool Zvi)),(D.v (.bool Zvj)),(D.v (.bool Zxq))]),(Blk.d Zhx Zhy),(Blk.d 4 [(D.list Zhz Zlp Zp4),(D.v (.bool Zp5)),(D.v (.bool Zp6)),(D.v (.bool Zp7))])]⟩
  (contK Tg Z1k.sp ⟨0,[],false,[]⟩ (inlK Tg Z1k m 4) m Zu (endK Tg Tryz.f25 endV) [.loop (bm 218 70) 4 (subc [1,1,1,1,1,0,1,0,0] (bodyOf Tryz.f25)) n0,.block 2,.code (subc [1,1,1,1,1,1] (bodyOf Tryz.f25))]))
theorem Zxf (m n0 : Nat) (Ztv : Nat) (Zve : Int) (Zxo : Nat) (Zxp : Option Nat) (Zvf : List D) (Zvg : Int) (Zvh : Int) (Zvi : Bool) (Zvj : Bool) (Zxq : Bool) (Zhx : Nat) (Zhy : List D) (Zhz : Nat) (Zlp : Option Nat) (Zp4 : List D) (Zp5 : Bool) (Zp6 : Bool) (Zp7 : Bool) : Zey m n0 Ztv Zve Zxo Zxp Zvf Zvg Zvh Zvi Zvj Zxq Zhx Zhy Zhz Zlp Zp4 Zp5 Zp6 Zp7 =
 (Zhn m n0 Ztv (IntKind.wrap .i64 (Zve + (1 : Int))) Zxo Zxp Zvf Zvg Zvh Zvi Zvj Zxq Zhx Zhy Zhz Zlp Zp4 Zp5 Zp6 Zp7) := (Z12 m _).trans (by kernel_rfl)
theorem Zzy (m n0 : Nat) (Zft : Nat) (Zij : Int) (Zg7 : Nat) (Zk9 : Option Nat) (Zhu : List D) (Zrl : Int) (Zo2 : Int) (Zr8 : Bool) (Zng : Bool) (Zvc : Bool) (Zh3 : Nat) (Zhv : List D) (Zk1 : Nat) (Zh4 : Option Nat) (Zl2 : List D) (Zhi : Bool) (Zi1 : Bool) (Zg6 : Bool) : Zhn m (n0 + 1) Zft Zij Zg7 Zk9 Zhu Zrl Zo2 Zr8 Zng Zvc Zh3 Zhv Zk1 Zh4 Zl2 Zhi Zi1 Zg6 =
 (cond (decide (Zij < (7 : Int)))
 (if Zij < 0 then none else
 cond ((Int.tmod (Int.fdiv Zrl (2 ^ (min (Int.toNat Zij) (IntKind.bits .u8)))) (2 : Int)) == (1 : Int))
 ((Z4g [(D.v (.int .u8 (IntKind.wrap .u8 Zij)))]).bind fun d17 =>
 (rdA (some d17)).bind fun c18 =>
 (Zk3 [(D.list Zk1 Zh4 Zl2),(D.agg c18)]).bind fun d19 =>
 (rdL (some d19)).bind fun q20 =>
 Zey m n0 Zft Zij Zg7 Zk9 Zhu Zrl Zo2 Zr8 Zng Zvc Zh3 Zhv q20.n q20.cap q20.cs Zhi Zi1 Zg6)
 (Zey m n0 Zft Zij Zg7 Zk9 Zhu Zrl Zo2 Zr8 Zng Zvc Zh3 Zhv Zk1 Zh4 Zl2 Zhi Zi1 Zg6))
 (if (0 + (Zft * 8)) ≤ Zh3 then
 some (D.tup [(D.list Zft none (cutL Zh3 Zhv 0 (Zft * 8))),(D.agg [(D.list Zk1 Zh4 Zl2),(D.v (.bool Zhi)),(D.v (.bool Zi1)),(D.v (.bool Zg6))])])
 else none)) := by kernel_rfl
theorem Zzz (m : Nat) (Zo3 : Nat) (Zme : Nat) (Zoa : Option Nat) (Zox : List D) (Zsv : Int) (Znh : Int) (Zsw : Bool) (Zsx : Bool) (Zsy : Bool) (Zvd : Nat) (Zg4 : List D) : Zhm m Zo3 Zme Zoa Zox Zsv Znh Zsw Zsx Zsy Zvd Zg4 =
 (Zhn m m Zo3 (0 : Int) Zme Zoa Zox Zsv Znh Zsw Zsx Zsy Zvd Zg4 0 (some 0) [] ((Int.tmod Znh (2 : Int)) == (1 : Int)) ((Int.tmod (IntKind.wrap .u8 (Int.tdiv Znh (2 : Int))) (2 : Int)) == (1 : Int)) ((Int.tmod (IntKind.wrap .u8 (Int.tdiv Znh (4 : Int))) (2 : Int)) == (1 : Int))) := (Z12 m _).trans (by kernel_rfl)
theorem Z100 (m : Nat) (Zfi : Nat) (Zjz : Nat) (Zkq : Option Nat) (Zlm : List D) (Zne : Int) (Zk0 : Int) (Zm8 : Bool) (Znf : Bool) (Zmd : Bool) (Zpk : Nat) (Zbr : List D) : Zhl m Zfi Zjz Zkq Zlm Zne Zk0 Zm8 Znf Zmd Zpk Zbr =
 (cond ((Zfi : Int) == (0 : Int))
 ((Zdq [(D.agg [(D.v (.int .u8 (0 : Int))),(D.list 0 (some 0) []),(D.list 0 (some 0) []),(D.v (.int .u8 (0 : Int))),(D.v (.int .u8 (0 : Int))),(D.v (.int .u8 (0 : Int)))])]).bind fun d7 =>
 (rdA (some d7)).bind fun c8 =>
 if (List.length c8) = 8 then
 if ownB ⟨0,[],false,[]⟩ 2 = true ∧ Zpk = (Zfi * 8) ∧ Z4y (Zfi + 1) 88 ∧ (List.length c8) = 8 then
 Zhm m (Zfi + 1) Zjz Zkq Zlm Zne Zk0 Zm8 Znf Zmd ((Zfi + 1) * 8) (Zbr ++ c8)
 else none
 else none)
 (Zhm m Zfi Zjz Zkq Zlm Zne Zk0 Zm8 Znf Zmd Zpk Zbr)) := (Z12 m _).trans (by kernel_rfl)
theorem Z12e (m n0 : Nat) (Z2h : Nat) (Z3b : Int) (Z25 : Nat) (Z2p : Option Nat) (Z1q : List D) (Z48 : Int) (Z49 : Int) (Z4p : Bool) (Z57 : Bool) (Z6o : Bool) (Z2l : Nat) (Z2k : List D) : Zj3 m (n0 + 1) Z2h Z3b Z25 Z2p Z1q Z48 Z49 Z4p Z57 Z6o Z2l Z2k =
 (cond (decide (Z3b < (Z25 : Int)))
 (cond (decide (Z3b < (5 : Int)))
 (Zt8 m n0 Z2h Z3b Z25 Z2p Z1q Z48 Z49 Z4p Z57 Z6o Z2l Z2k)
 (Zhl m Z2h Z25 Z2p Z1q Z48 Z49 Z4p Z57 Z6o Z2l Z2k))
 (Zhl m Z2h Z25 Z2p Z1q Z48 Z49 Z4p Z57 Z6o Z2l Z2k)) := by kernel_rfl
noncomputable def Znr (m : Nat) (a0_0n : Nat) (a0_0c : Option Nat) (a0_0 : List D) (a0_1 : Int) (a0_2 : Int) : Option D :=
 Zj3 m m 0 (0 : Int) a0_0n a0_0c a0_0 a0_1 a0_2 false false false 0 []
theorem Z14g (m : Nat) (a0_0n : Nat) (a0_0c : Option Nat) (a0_0 : List D) (a0_1 : Int) (a0_2 : Int) : funD Tg Z1k m 4 Zu Tryz.f25 [(D.agg [(D.list a0_0n a0_0c a0_0),(D.v (.int .u8 a0_1)),(D.v (.int .u8 a0_2))])] = Znr m a0_0n a0_0c a0_0 a0_1 a0_2 := by kernel_rfl
theorem Z18n : Enters Tg 25 := ⟨Tryz.f25,Tryz.func25,by kernel_rfl,by kernel_rfl⟩
theorem Z18o {ds : List D} {d : D} (h : funD Tg Z1k M 4 Zu Tryz.f25 ds = some d) : DataSem Tg 25 ds d := Zo (H := Z1k) (SpOk.cons Z18m (SpOk.cons Zt4 (SpOk.cons Z1bb SpOk.nil))) mixed InlOk.nil Tryz.func25 Z18n h
noncomputable def Z5m : List D → Option D
 | [.agg [.list a0_0n a0_0c a0_0,.v (.int .u8 a0_1),.v (.int .u8 a0_2)]] => Znr M a0_0n a0_0c a0_0 a0_1 a0_2
 | _ => none
theorem Zqi : ∀ ds d,Z5m ds = some d → DataSem Tg 25 ds d := by
 intro ds d h
 unfold Z5m at h
 split at h
 ·exact Z18o ((Z14g M _ _ _ _ _).trans h)
 ·cases h
end Go.Ev