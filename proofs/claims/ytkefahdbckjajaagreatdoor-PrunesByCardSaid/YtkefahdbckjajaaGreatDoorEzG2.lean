/- Functions of the given program in plain form,printed: each with the proof that it is what the evaluator comes to,and that the program function returns what it says. No conditions. -/
import Derived.Test.YtkefahdbckjajaaGreatDoorEzG1
set_option linter.unusedVariables false
set_option maxRecDepth 100000
namespace Go.Ev
open Go Go.Proofs

def Zji : FnH := ⟨[],[]⟩
noncomputable def Z10d : Hints := ⟨[],[],[]⟩
noncomputable def Z19h (m : Nat)  : Option D :=
 some (D.agg [(D.v (.int .u8 (5 : Int))),(D.v (.int .u32 (2 : Int))),(D.v (.int .u32 (5 : Int))),(D.v (.int .u32 (29 : Int))),(D.v (.int .u32 (32 : Int))),zU,zU,zU,zU,zU,zU,zU,zU,zU,zU,zU,zU])
theorem Z1bj (m : Nat)  : funD Tg Z10d m 4 Zji Tryz.f35 [] = Z19h m  := by kernel_rfl
theorem Z1gm : Enters Tg 35 := ⟨Tryz.f35,Tryz.func35,by kernel_rfl,by kernel_rfl⟩
theorem Z1gn {ds : List D} {d : D} (h : funD Tg Z10d M 4 Zji Tryz.f35 ds = some d) : DataSem Tg 35 ds d := Z8 (H := Z10d) SpOk.nil mixed InlOk.nil Tryz.func35 Z1gm h
noncomputable def Zn6 : List D → Option D
  | [] => Z19h M 
  | _ => none
theorem Z161 : ∀ ds d,Zn6 ds = some d → DataSem Tg 35 ds d := by
  intro ds d h
  unfold Zn6 at h
  split at h
  · exact Z1gn ((Z1bj M ).trans h)
  · cases h

def Zbe : FnH := ⟨[],[]⟩
noncomputable def Zsd : Hints := ⟨[(35,Zn6)],[],[]⟩
noncomputable def Zlo (m : Nat) (a0 : Int) : Option D :=
 cond ((Int.tmod a0 (7 : Int)) == (6 : Int))
 ((Zn6 []).bind fun d1 =>
 (rdA (some d1)).bind fun c2 =>
 if (List.length c2) = 17 then
 some (D.agg c2)
 else none)
 (some (D.agg [(D.v (.int .u8 (3 : Int))),(D.v (.int .u32 (1 : Int))),(D.v (.int .u32 (2 : Int))),(D.v (.int .u32 (IntKind.wrap .u32 ((3 : Int) + (IntKind.wrap .u32 (Int.tmod a0 (7 : Int))))))),zU,zU,zU,zU,zU,zU,zU,zU,zU,zU,zU,zU,zU]))
theorem Z14m (m : Nat) (a0 : Int) : funD Tg Zsd m 4 Zbe Tryz.f38 [(D.v (.int .u8 a0))] = Zlo m a0 := by kernel_rfl
theorem Z19i : Enters Tg 38 := ⟨Tryz.f38,Tryz.func38,by kernel_rfl,by kernel_rfl⟩
theorem Z19j {ds : List D} {d : D} (h : funD Tg Zsd M 4 Zbe Tryz.f38 ds = some d) : DataSem Tg 38 ds d := Z8 (H := Zsd) (SpOk.cons Z161 SpOk.nil) mixed InlOk.nil Tryz.func38 Z19i h
noncomputable def Z6t : List D → Option D
  | [.v (.int .u8 a0)] => Zlo M a0
  | _ => none
theorem Zq6 : ∀ ds d,Z6t ds = some d → DataSem Tg 38 ds d := by
  intro ds d h
  unfold Z6t at h
  split at h
  · exact Z19j ((Z14m M _).trans h)
  · cases h

def Ze5 : FnH := ⟨[],[]⟩
noncomputable def Zuc : Hints := ⟨[],[],[]⟩
noncomputable def Zp0 (m : Nat) (a0 : Int) : Option D :=
 cond ((Int.tmod a0 (4 : Int)) == (1 : Int))
 (some (D.list 1 (some 1) [(D.v (.int .u8 (1 : Int))),(D.v (.string (ByteArray.mk #[104,116,116,112,58,47,47,97]))),(D.v (.bool false)),zU,(D.v (.string (ByteArray.mk #[]))),(D.list 0 (some 0) []),(D.v (.bool false)),zU,(D.v (.string (ByteArray.mk #[]))),(D.v (.int .u8 (0 : Int))),zU,zU,zU,zU,zU,zU,zU,zU,zU,zU,zU,zU,zU,zU,zU,zU,(D.list 0 (some 0) [])]))
 (cond ((Int.tmod a0 (4 : Int)) == (2 : Int))
 (some (D.list 1 (some 1) [(D.v (.int .u8 (2 : Int))),(D.v (.string (ByteArray.mk #[]))),(D.v (.bool false)),zU,(D.v (.string (ByteArray.mk #[]))),(D.list 0 (some 0) []),(D.v (.bool true)),(D.v (.int .u32 (12 : Int))),(D.v (.string (ByteArray.mk #[98]))),(D.v (.int .u8 (0 : Int))),zU,zU,zU,zU,zU,zU,zU,zU,zU,zU,zU,zU,zU,zU,zU,zU,(D.list 0 (some 0) [])]))
 (cond ((Int.tmod a0 (4 : Int)) == (3 : Int))
 (some (D.list 2 (some 2) [(D.v (.int .u8 (2 : Int))),(D.v (.string (ByteArray.mk #[]))),(D.v (.bool false)),zU,(D.v (.string (ByteArray.mk #[]))),(D.list 0 (some 0) []),(D.v (.bool true)),(D.v (.int .u32 (12 : Int))),(D.v (.string (ByteArray.mk #[98]))),(D.v (.int .u8 (0 : Int))),zU,zU,zU,zU,zU,zU,zU,zU,zU,zU,zU,zU,zU,zU,zU,zU,(D.list 0 (some 0) []),(D.v (.int .u8 (1 : Int))),(D.v (.string (ByteArray.mk #[104,116,116,112,58,47,47,97]))),(D.v (.bool false)),zU,(D.v (.string (ByteArray.mk #[]))),(D.list 0 (some 0) []),(D.v (.bool false)),zU,(D.v (.string (ByteArray.mk #[]))),(D.v (.int .u8 (0 : Int))),zU,zU,zU,zU,zU,zU,zU,zU,zU,zU,zU,zU,zU,zU,zU,zU,(D.list 0 (some 0) [])]))
 (some (D.list 0 (some 0) []))))
theorem Z16u (m : Nat) (a0 : Int) : funD Tg Zuc m 4 Ze5 Tryz.f73 [(D.v (.int .u8 a0))] = Zp0 m a0 := by kernel_rfl
theorem Z1bk : Enters Tg 73 := ⟨Tryz.f73,Tryz.func73,by kernel_rfl,by kernel_rfl⟩
theorem Z1bl {ds : List D} {d : D} (h : funD Tg Zuc M 4 Ze5 Tryz.f73 ds = some d) : DataSem Tg 73 ds d := Z8 (H := Zuc) SpOk.nil mixed InlOk.nil Tryz.func73 Z1bk h
noncomputable def Zgg : List D → Option D
  | [.v (.int .u8 a0)] => Zp0 M a0
  | _ => none
theorem Z1bm : ∀ ds d,Zgg ds = some d → DataSem Tg 73 ds d := by
  intro ds d h
  unfold Zgg at h
  split at h
  · exact Z1bl ((Z16u M _).trans h)
  · cases h

def Z21 : FnH := ⟨[(4,⟨(bm 233 49),[(5,17)],(some 2)⟩)],[(8,⟨(bm 233 49),[],(some 2)⟩),(11,⟨(bm 233 49),[],(some 3)⟩)]⟩
noncomputable def Z3s : Hints := ⟨[(62,Z52)],[],[]⟩
noncomputable def Zjj (m n0 : Nat) (Zl : Nat) (Zt : Option Nat) (Zy : List D) (Z11 : Nat) (Zs : Int) (Z1b : Int) (Z1o : List D) (Z2r : Nat) (Z3x : List D) : Option D :=
 Z15 (bm 233 49) 0 2 (codeK Tg Z3s.sp ⟨0,[],false,[]⟩ (inlK Tg Z3s m 4) m Z21 (subc [1,1,1,0,1,0,0] (bodyOf Tryz.f106))) n0 ⟨[(AV.d (D.list Zl Zt Zy)),Jk,Jk,(AV.ptr 0 0),Jk,(AV.sl 1 0 Z11 none 17),(AV.d (D.v (.int .i64 Zs))),(AV.d (D.v (.int .i64 Z1b))),Jk,Jk,Jk,Jk,Jk,Jk,Jk,Jk,Jk,Jk,Jk,Jk,Jk,Jk,Jk,Jk,Jk,Jk,Jk,Jk,Jk,Jk,Jk,Jk,Jk,Jk,Jk,Jk,Jk,Jk,Jk,Jk,Jk,Jk,Jk,Jk,Jk,Jk,Jk,Jk,Jk],[(Blk.d 17 Z1o),(Blk.d Z2r Z3x)]⟩
  (contK Tg Z3s.sp ⟨0,[],false,[]⟩ (inlK Tg Z3s m 4) m Z21 (endK Tg Tryz.f106 (fun v L => viewK L 8 v some)) [.block 0,.code (subc [1,1,1,1] (bodyOf Tryz.f106))])
noncomputable def Zlp (m n0 : Nat) (Z2o : Nat) (Z43 : Option Nat) (Z3v : List D) (Z3o : Nat) (Z2d : Int) (Z6d : Int) (Z7a : List D) (Zki : Nat) (Zp1 : List D) : Option D :=
 cutK m (codeK Tg Z3s.sp ⟨0,[],false,[]⟩ (inlK Tg Z3s m 4) m Z21 (subc [1,1,1,0,1,0,0,1,0,0,1] (bodyOf Tryz.f106)) ⟨[(AV.d (D.list Z2o Z43 Z3v)),Jk,Jk,(AV.ptr 0 0),Jk,(AV.sl 1 0 Z3o none 17),(AV.d (D.v (.int .i64 Z2d))),(AV.d (D.v (.int .i64 Z6d))),Jk,Jk,Jk,Jk,Jk,Jk,Jk,Jk,Jk,Jk,Jk,Jk,Jk,Jk,Jk,Jk,Jk,Jk,Jk,Jk,Jk,Jk,Jk,Jk,Jk,Jk,Jk,Jk,Jk,Jk,Jk,Jk,Jk,Jk,Jk,Jk,Jk,Jk,Jk,Jk,Jk],[(Blk.d 17 Z7a),(Blk.d Zki Zp1)]⟩
  (contK Tg Z3s.sp ⟨0,[],false,[]⟩ (inlK Tg Z3s m 4) m Z21 (endK Tg Tryz.f106 (fun v L => viewK L 8 v some)) [.block 1,.code (subc [1,1,1,0,1,0,0,1,1] (bodyOf Tryz.f106)),.loop (bm 233 49) 2 (subc [1,1,1,0,1,0,0] (bodyOf Tryz.f106)) n0,.block 0,.code (subc [1,1,1,1] (bodyOf Tryz.f106))]))
noncomputable def Zxk (m n0 : Nat) (Z8i : Nat) (Z9q : Option Nat) (Z9r : List D) (Za9 : Nat) (Z80 : Int) (Z8s : Int) (Zf3 : List D) (Zif : Nat) (Zno : List D) (Zso : List D) : Option D :=
 cutK m (codeK Tg Z3s.sp ⟨0,[],false,[]⟩ (inlK Tg Z3s m 4) m Z21 (subc [1,1,1,0,1,0,0,1,0,0,1,1] (bodyOf Tryz.f106)) ⟨[(AV.d (D.list Z8i Z9q Z9r)),Jk,Jk,(AV.ptr 0 0),Jk,(AV.sl 1 0 Za9 none 17),(AV.d (D.v (.int .i64 Z80))),(AV.d (D.v (.int .i64 Z8s))),Jk,Jk,Jk,Jk,Jk,Jk,Jk,Jk,Jk,Jk,Jk,Jk,Jk,Jk,Jk,Jk,Jk,Jk,Jk,Jk,Jk,Jk,Jk,Jk,Jk,Jk,Jk,Jk,Jk,Jk,Jk,Jk,Jk,Jk,Jk,Jk,Jk,Jk,Jk,Jk,Jk],[(Blk.d 17 Zf3),(Blk.d Zif Zno),(Blk.d 17 Zso)]⟩
  (contK Tg Z3s.sp ⟨0,[],false,[]⟩ (inlK Tg Z3s m 4) m Z21 (endK Tg Tryz.f106 (fun v L => viewK L 8 v some)) [.block 1,.code (subc [1,1,1,0,1,0,0,1,1] (bodyOf Tryz.f106)),.loop (bm 233 49) 2 (subc [1,1,1,0,1,0,0] (bodyOf Tryz.f106)) n0,.block 0,.code (subc [1,1,1,1] (bodyOf Tryz.f106))]))
theorem Z14n (m n0 : Nat) (Z8i : Nat) (Z9q : Option Nat) (Z9r : List D) (Za9 : Nat) (Z80 : Int) (Z8s : Int) (Zf3 : List D) (Zif : Nat) (Zno : List D) (Zso : List D) : Zxk m n0 Z8i Z9q Z9r Za9 Z80 Z8s Zf3 Zif Zno Zso =
 (if 0 ≤ Z8s ∧ Z8s < (Z8i : Int) then
 if (((Int.toNat Z8s) * 17) + 17) ≤ (List.length Z9r) then
 if (List.length ((List.drop ((Int.toNat Z8s) * 17) Z9r).take 17)) = 17 then
 if ownB ⟨0,[],false,[]⟩ 1 = true ∧ Zif = (Za9 * 17) ∧ Z1w (Za9 + 1) 68 ∧ (List.length ((List.drop ((Int.toNat Z8s) * 17) Z9r).take 17)) = 17 then
 Zjj m n0 Z8i Z9q Z9r (Za9 + 1) Z80 (IntKind.wrap .i64 (Z8s + (1 : Int))) Zf3 ((Za9 + 1) * 17) (Zno ++ ((List.drop ((Int.toNat Z8s) * 17) Z9r).take 17))
 else none
 else none
 else none
 else none) := (Z1t m _).trans (by kernel_rfl)
noncomputable def Zf4 (m n0 : Nat) (Ze6 : Nat) (Zvv : Option Nat) (Zud : List D) (Zvn : Nat) (Zvo : Int) (Zw7 : Int) (Zyi : List D) (Z10e : Nat) (Z10f : List D) : Option D :=
 cutK m (codeK Tg Z3s.sp ⟨0,[],false,[]⟩ (inlK Tg Z3s m 4) m Z21 (subc [1,1,1,0,1,0,0,1,0,0,1,1] (bodyOf Tryz.f106)) ⟨[(AV.d (D.list Ze6 Zvv Zud)),Jk,Jk,(AV.ptr 0 0),Jk,(AV.sl 1 0 Zvn none 17),(AV.d (D.v (.int .i64 Zvo))),(AV.d (D.v (.int .i64 Zw7))),Jk,Jk,Jk,Jk,Jk,Jk,Jk,Jk,Jk,Jk,Jk,Jk,Jk,Jk,Jk,Jk,Jk,Jk,Jk,Jk,Jk,Jk,Jk,Jk,Jk,Jk,Jk,Jk,Jk,Jk,Jk,Jk,Jk,Jk,Jk,Jk,Jk,Jk,Jk,Jk,Jk],[(Blk.d 17 Zyi),(Blk.d Z10e Z10f)]⟩
  (contK Tg Z3s.sp ⟨0,[],false,[]⟩ (inlK Tg Z3s m 4) m Z21 (endK Tg Tryz.f106 (fun v L => viewK L 8 v some)) [.block 1,.code (subc [1,1,1,0,1,0,0,1,1] (bodyOf Tryz.f106)),.loop (bm 233 49) 2 (subc [1,1,1,0,1,0,0] (bodyOf Tryz.f106)) n0,.block 0,.code (subc [1,1,1,1] (bodyOf Tryz.f106))]))
theorem Zq7 (m n0 : Nat) (Ze6 : Nat) (Zvv : Option Nat) (Zud : List D) (Zvn : Nat) (Zvo : Int) (Zw7 : Int) (Zyi : List D) (Z10e : Nat) (Z10f : List D) : Zf4 m n0 Ze6 Zvv Zud Zvn Zvo Zw7 Zyi Z10e Z10f =
 (if 0 ≤ Zw7 ∧ Zw7 < (Ze6 : Int) then
 if (((Int.toNat Zw7) * 17) + 17) ≤ (List.length Zud) then
 if (List.length ((List.drop ((Int.toNat Zw7) * 17) Zud).take 17)) = 17 then
 if ownB ⟨0,[],false,[]⟩ 1 = true ∧ Z10e = (Zvn * 17) ∧ Z1w (Zvn + 1) 68 ∧ (List.length ((List.drop ((Int.toNat Zw7) * 17) Zud).take 17)) = 17 then
 Zjj m n0 Ze6 Zvv Zud (Zvn + 1) Zvo (IntKind.wrap .i64 (Zw7 + (1 : Int))) Zyi ((Zvn + 1) * 17) (Z10f ++ ((List.drop ((Int.toNat Zw7) * 17) Zud).take 17))
 else none
 else none
 else none
 else none) := (Z1t m _).trans (by kernel_rfl)
theorem Z16v (m n0 : Nat) (Z2o : Nat) (Z43 : Option Nat) (Z3v : List D) (Z3o : Nat) (Z2d : Int) (Z6d : Int) (Z7a : List D) (Zki : Nat) (Zp1 : List D) : Zlp m n0 Z2o Z43 Z3v Z3o Z2d Z6d Z7a Zki Zp1 =
 (cond (Z2d == (0 : Int))
 (if 0 ≤ Z6d ∧ Z6d < (Z2o : Int) then
 if (((Int.toNat Z6d) * 17) + 17) ≤ (List.length Z3v) then
 (Z52 [(D.agg Z7a),(D.agg ((List.drop ((Int.toNat Z6d) * 17) Z3v).take 17))]).bind fun d8 =>
 (rdI .i64 (some d8)).bind fun x9 =>
 cond (decide (x9 < (0 : Int)))
 (if (List.length Z7a) = 17 then
 if ownB ⟨0,[],false,[]⟩ 1 = true ∧ Zki = (Z3o * 17) ∧ Z1w (Z3o + 1) 68 ∧ (List.length Z7a) = 17 then
 Zxk m n0 Z2o Z43 Z3v (Z3o + 1) (1 : Int) Z6d Z7a ((Z3o + 1) * 17) (Zp1 ++ Z7a) Z7a
 else none
 else none)
 (Zf4 m n0 Z2o Z43 Z3v Z3o Z2d Z6d Z7a Zki Zp1)
 else none
 else none)
 (Zf4 m n0 Z2o Z43 Z3v Z3o Z2d Z6d Z7a Zki Zp1)) := (Z1t m _).trans (by kernel_rfl)
theorem Z19k (m n0 : Nat) (Zl : Nat) (Zt : Option Nat) (Zy : List D) (Z11 : Nat) (Zs : Int) (Z1b : Int) (Z1o : List D) (Z2r : Nat) (Z3x : List D) : Zjj m (n0 + 1) Zl Zt Zy Z11 Zs Z1b Z1o Z2r Z3x =
 (cond (decide (Z1b < (Zl : Int)))
 (if 0 ≤ Z1b ∧ Z1b < (Zl : Int) then
 if (((Int.toNat Z1b) * 17) + 17) ≤ (List.length Zy) then
 (cellsEq [.int,.int,.int,.int,.int,.int,.int,.int,.int,.int,.int,.int,.int,.int,.int,.int,.int] ((List.drop ((Int.toNat Z1b) * 17) Zy).take 17) Z1o).bind fun b7 =>
 cond b7
 (Zlp m n0 Zl Zt Zy Z11 (1 : Int) Z1b Z1o Z2r Z3x)
 (Zlp m n0 Zl Zt Zy Z11 Zs Z1b Z1o Z2r Z3x)
 else none
 else none)
 (cond (Zs == (0 : Int))
 (if (List.length Z1o) = 17 then
 if ownB ⟨0,[],false,[]⟩ 1 = true ∧ Z2r = (Z11 * 17) ∧ Z1w (Z11 + 1) 68 ∧ (List.length Z1o) = 17 then
 if (0 + ((Z11 + 1) * 17)) ≤ ((Z11 + 1) * 17) then
 some (D.list (Z11 + 1) none (cutL ((Z11 + 1) * 17) (Z3x ++ Z1o) 0 ((Z11 + 1) * 17)))
 else none
 else none
 else none)
 (if (0 + (Z11 * 17)) ≤ Z2r then
 some (D.list Z11 none (cutL Z2r Z3x 0 (Z11 * 17)))
 else none))) := by kernel_rfl
noncomputable def Zue (m : Nat) (a0n : Nat) (a0c : Option Nat) (a0 : List D) (a1 : List D) : Option D :=
 if (List.length a1) = 17 then
 Zjj m m a0n a0c a0 0 (0 : Int) (0 : Int) a1 0 []
 else none
theorem Z1bn (m : Nat) (a0n : Nat) (a0c : Option Nat) (a0 : List D) (a1 : List D) : funD Tg Z3s m 4 Z21 Tryz.f106 [(D.list a0n a0c a0),(D.agg a1)] = Zue m a0n a0c a0 a1 := by kernel_rfl
theorem Z1go : Enters Tg 106 := ⟨Tryz.f106,Tryz.func106,by kernel_rfl,by kernel_rfl⟩
theorem Z1gp {ds : List D} {d : D} (h : funD Tg Z3s M 4 Z21 Tryz.f106 ds = some d) : DataSem Tg 106 ds d := Z8 (H := Z3s) (SpOk.cons Znm SpOk.nil) mixed InlOk.nil Tryz.func106 Z1go h
noncomputable def Zn7 : List D → Option D
  | [.list a0n a0c a0,.agg a1] => Zue M a0n a0c a0 a1
  | _ => none
theorem Z1gq : ∀ ds d,Zn7 ds = some d → DataSem Tg 106 ds d := by
  intro ds d h
  unfold Zn7 at h
  split at h
  · exact Z1gp ((Z1bn M _ _ _ _).trans h)
  · cases h

def Z4p : FnH := ⟨[(3,⟨(bm 25 20),[],(some 0)⟩)],[(4,⟨(bm 25 20),[],(some 0)⟩)]⟩
noncomputable def Z7q : Hints := ⟨[(38,Z6t),(106,Zn7)],[],[]⟩
noncomputable def Zp2 (m n0 : Nat) (Zl : Int) (Zt : Nat) (Zy : Option Nat) (Z11 : List D) (Zs : Int) : Option D :=
 Z15 (bm 25 20) 0 0 (codeK Tg Z7q.sp ⟨0,[],false,[]⟩ (inlK Tg Z7q m 4) m Z4p (subc [1,1,0,1,0,0] (bodyOf Tryz.f72))) n0 ⟨[(AV.d (D.v (.int .u8 Zl))),Jk,Jk,(AV.d (D.list Zt Zy Z11)),(AV.d (D.v (.int .i64 Zs))),Jk,Jk,Jk,Jk,Jk,Jk,Jk,Jk,Jk,Jk,Jk,Jk,Jk,Jk,Jk],[]⟩
  (contK Tg Z7q.sp ⟨0,[],false,[]⟩ (inlK Tg Z7q m 4) m Z4p (endK Tg Tryz.f72 (fun v L => viewK L 8 v some)) [.block 0,.code (subc [1,1,1] (bodyOf Tryz.f72))])
noncomputable def Zlq (m n0 : Nat) (Z2o : Int) (Z43 : Nat) (Z3v : Option Nat) (Z3o : List D) (Z2d : Int) : Option D :=
 cutK m (codeK Tg Z7q.sp ⟨0,[],false,[]⟩ (inlK Tg Z7q m 4) m Z4p (subc [1,1,0,1,0,0,1,1] (bodyOf Tryz.f72)) ⟨[(AV.d (D.v (.int .u8 Z2o))),Jk,Jk,(AV.d (D.list Z43 Z3v Z3o)),(AV.d (D.v (.int .i64 Z2d))),Jk,Jk,Jk,Jk,Jk,Jk,Jk,Jk,Jk,Jk,Jk,Jk,Jk,Jk,Jk],[]⟩
  (contK Tg Z7q.sp ⟨0,[],false,[]⟩ (inlK Tg Z7q m 4) m Z4p (endK Tg Tryz.f72 (fun v L => viewK L 8 v some)) [.loop (bm 25 20) 0 (subc [1,1,0,1,0,0] (bodyOf Tryz.f72)) n0,.block 0,.code (subc [1,1,1] (bodyOf Tryz.f72))]))
theorem Z16w (m n0 : Nat) (Z2o : Int) (Z43 : Nat) (Z3v : Option Nat) (Z3o : List D) (Z2d : Int) : Zlq m n0 Z2o Z43 Z3v Z3o Z2d =
 (Zp2 m n0 Z2o Z43 Z3v Z3o (IntKind.wrap .i64 (Z2d + (1 : Int)))) := (Z1t m _).trans (by kernel_rfl)
theorem Z19l (m n0 : Nat) (Zl : Int) (Zt : Nat) (Zy : Option Nat) (Z11 : List D) (Zs : Int) : Zp2 m (n0 + 1) Zl Zt Zy Z11 Zs =
 (cond (decide (Zs < (7 : Int)))
 (if Zs < 0 then none else
 cond ((Int.tmod (Int.fdiv Zl (2 ^ (min (Int.toNat Zs) (IntKind.bits .u8)))) (2 : Int)) == (1 : Int))
 ((Z6t [(D.v (.int .u8 (IntKind.wrap .u8 Zs)))]).bind fun d9 =>
 (rdA (some d9)).bind fun c10 =>
 (Zn7 [(D.list Zt Zy Z11),(D.agg c10)]).bind fun d11 =>
 (rdL (some d11)).bind fun q12 =>
 Zlq m n0 Zl q12.n q12.cap q12.cs Zs)
 (Zlq m n0 Zl Zt Zy Z11 Zs))
 (some (D.list Zt Zy Z11))) := by kernel_rfl
noncomputable def Zuf (m : Nat) (a0 : Int) : Option D :=
 Zp2 m m a0 0 (some 0) [] (0 : Int)
theorem Z1bo (m : Nat) (a0 : Int) : funD Tg Z7q m 4 Z4p Tryz.f72 [(D.v (.int .u8 a0))] = Zuf m a0 := by kernel_rfl
theorem Z1gr : Enters Tg 72 := ⟨Tryz.f72,Tryz.func72,by kernel_rfl,by kernel_rfl⟩
theorem Z1gs {ds : List D} {d : D} (h : funD Tg Z7q M 4 Z4p Tryz.f72 ds = some d) : DataSem Tg 72 ds d := Z8 (H := Z7q) (SpOk.cons Zq6 (SpOk.cons Z1gq SpOk.nil)) mixed InlOk.nil Tryz.func72 Z1gr h
noncomputable def Zn8 : List D → Option D
  | [.v (.int .u8 a0)] => Zuf M a0
  | _ => none
theorem Z1gt : ∀ ds d,Zn8 ds = some d → DataSem Tg 72 ds d := by
  intro ds d h
  unfold Zn8 at h
  split at h
  · exact Z1gs ((Z1bo M _).trans h)
  · cases h

def Z3d : FnH := ⟨[(2,⟨(bm 38 34),[],(some 1)⟩)],[(5,⟨(bm 38 34),[],(some 1)⟩)]⟩
noncomputable def Z5k : Hints := ⟨[],[],[]⟩
noncomputable def Zjk (m n0 : Nat) (Zl : Int) (Zt : Int) (Zy : Nat) (Z11 : Option Nat) (Zs : List D) : Option D :=
 Z15 (bm 38 34) 0 1 (codeK Tg Z5k.sp ⟨0,[],false,[]⟩ (inlK Tg Z5k m 4) m Z3d (subc [1,1,0,0,0] (bodyOf Tryz.f34))) n0 ⟨[Jk,(AV.d (D.v (.int .i64 Zl))),(AV.ptr 0 0),Jk,Jk,(AV.d (D.v (.int .i64 Zt))),Jk,Jk,Jk,Jk,Jk,Jk,Jk,Jk,Jk,Jk,Jk,Jk,Jk,Jk,Jk,Jk,Jk,Jk,Jk,Jk,Jk,Jk,Jk,Jk,Jk,Jk,Jk,Jk],[(Blk.d 1 [(D.list Zy Z11 Zs)])]⟩
  (contK Tg Z5k.sp ⟨0,[],false,[]⟩ (inlK Tg Z5k m 4) m Z3d (endK Tg Tryz.f34 (fun v L => viewK L 8 v some)) [.block 0,.code (subc [1,1,1] (bodyOf Tryz.f34))])
noncomputable def Zvp (m n0 : Nat) (Z2o : Int) (Z43 : Int) (Z3v : Nat) (Z3o : Option Nat) (Z2d : List D) : Option D :=
 cutK m (codeK Tg Z5k.sp ⟨0,[],false,[]⟩ (inlK Tg Z5k m 4) m Z3d (subc [1,1,0,0,0,1,0,1] (bodyOf Tryz.f34)) ⟨[Jk,(AV.d (D.v (.int .i64 Z2o))),(AV.ptr 0 0),Jk,Jk,(AV.d (D.v (.int .i64 Z43))),Jk,Jk,Jk,Jk,Jk,Jk,Jk,Jk,Jk,Jk,Jk,Jk,Jk,Jk,Jk,Jk,Jk,Jk,Jk,Jk,Jk,Jk,Jk,Jk,Jk,Jk,Jk,Jk],[(Blk.d 1 [(D.list Z3v Z3o Z2d)])]⟩
  (contK Tg Z5k.sp ⟨0,[],false,[]⟩ (inlK Tg Z5k m 4) m Z3d (endK Tg Tryz.f34 (fun v L => viewK L 8 v some)) [.block 1,.loop (bm 38 34) 1 (subc [1,1,0,0,0] (bodyOf Tryz.f34)) n0,.block 0,.code (subc [1,1,1] (bodyOf Tryz.f34))]))
theorem Z12v (m n0 : Nat) (Z2o : Int) (Z43 : Int) (Z3v : Nat) (Z3o : Option Nat) (Z2d : List D) : Zvp m n0 Z2o Z43 Z3v Z3o Z2d =
 (if 0 ≤ Z2o ∧ Z2o < (Z3v : Int) then
 (rdI .i64 Z2d[(((Int.toNat Z2o) * 20) + 0)]?).bind fun x9 =>
 Zjk m n0 x9 (IntKind.wrap .i64 (Z43 + (1 : Int))) Z3v Z3o Z2d
 else none) := (Z1t m _).trans (by kernel_rfl)
theorem Z14o (m n0 : Nat) (Zl : Int) (Zt : Int) (Zy : Nat) (Z11 : Option Nat) (Zs : List D) : Zjk m (n0 + 1) Zl Zt Zy Z11 Zs =
 (cond (decide (Zl > (0 : Int)))
 (if 0 ≤ Zl ∧ Zl < (Zy : Int) then
 (rdI .i64 Zs[(((Int.toNat Zl) * 20) + 0)]?).bind fun x7 =>
 cond (decide (x7 ≥ Zl))
 (some (D.v (.int .i64 (100000 : Int))))
 (if 0 ≤ Zl ∧ Zl < (Zy : Int) then
 (rdI .i64 Zs[(((Int.toNat Zl) * 20) + 0)]?).bind fun x8 =>
 cond (decide (x8 < (0 : Int)))
 (some (D.v (.int .i64 (100000 : Int))))
 (Zvp m n0 Zl Zt Zy Z11 Zs)
 else none)
 else none)
 (some (D.v (.int .i64 Zt)))) := by kernel_rfl
noncomputable def Zp3 (m : Nat) (a0_0n : Nat) (a0_0c : Option Nat) (a0_0 : List D) (a1 : Int) : Option D :=
 Zjk m m a1 (0 : Int) a0_0n a0_0c a0_0
theorem Z16x (m : Nat) (a0_0n : Nat) (a0_0c : Option Nat) (a0_0 : List D) (a1 : Int) : funD Tg Z5k m 4 Z3d Tryz.f34 [(D.agg [(D.list a0_0n a0_0c a0_0)]),(D.v (.int .i64 a1))] = Zp3 m a0_0n a0_0c a0_0 a1 := by kernel_rfl
theorem Z1bp : Enters Tg 34 := ⟨Tryz.f34,Tryz.func34,by kernel_rfl,by kernel_rfl⟩
theorem Z1bq {ds : List D} {d : D} (h : funD Tg Z5k M 4 Z3d Tryz.f34 ds = some d) : DataSem Tg 34 ds d := Z8 (H := Z5k) SpOk.nil mixed InlOk.nil Tryz.func34 Z1bp h
noncomputable def Z29 : List D → Option D
  | [.agg [.list a0_0n a0_0c a0_0],.v (.int .i64 a1)] => Zp3 M a0_0n a0_0c a0_0 a1
  | _ => none
theorem Zgh : ∀ ds d,Z29 ds = some d → DataSem Tg 34 ds d := by
  intro ds d h
  unfold Z29 at h
  split at h
  · exact Z1bq ((Z16x M _ _ _ _).trans h)
  · cases h

def Z6e : FnH := ⟨[(10,⟨(bm 34 39),[],(some 1)⟩)],[]⟩
noncomputable def Ze7 : Hints := ⟨[(53,Zgf),(91,Z8n),(104,Zge)],[],[]⟩
noncomputable def Zjl (m n0 : Nat) (Zl : Int) (Zt : List D) : Option D :=
 Z15 (bm 34 39) 0 1 (codeK Tg Ze7.sp ⟨0,[],false,[]⟩ (inlK Tg Ze7 m 4) m Z6e (subc [1,1,1,1,0,1,0,0] (bodyOf Tryz.f63))) n0 ⟨[Jk,(AV.ptr 0 0),Jk,Jk,Jk,(AV.d (D.v (.int .i64 Zl))),Jk,Jk,Jk,Jk,Jk,Jk,Jk,Jk,Jk,Jk,Jk,Jk,Jk,Jk,Jk,Jk,Jk,Jk,Jk,Jk,Jk,Jk,Jk,Jk,Jk,Jk,Jk,Jk,Jk,Jk,Jk,Jk,Jk],[(Blk.d 20 Zt)]⟩
  (contK Tg Ze7.sp ⟨0,[],false,[]⟩ (inlK Tg Ze7 m 4) m Z6e (endK Tg Tryz.f63 (fun v L => viewK L 8 v some)) [.block 0,.code (subc [1,1,1,1,1] (bodyOf Tryz.f63))])
theorem Z14p (m n0 : Nat) (Zl : Int) (Zt : List D) : Zjl m (n0 + 1) Zl Zt =
 ((rdL Zt[19]?).bind fun q15 =>
 cond (decide (Zl < (q15.n : Int)))
 ((rdL Zt[19]?).bind fun q16 =>
 if 0 ≤ Zl ∧ Zl < (q16.n : Int) then
 if (((Int.toNat Zl) * 27) + 27) ≤ (List.length q16.cs) then
 (Zge [(D.agg ((List.drop ((Int.toNat Zl) * 27) q16.cs).take 27))]).bind fun d17 =>
 (rdI .i64 (some d17)).bind fun x18 =>
 cond (x18 != (0 : Int))
 (some (D.v (.int .i64 x18)))
 (Zjl m n0 (IntKind.wrap .i64 (Zl + (1 : Int))) Zt)
 else none
 else none)
 (some zI)) := by kernel_rfl
noncomputable def Zrn (m : Nat) (a0 : List D) : Option D :=
 if (List.length a0) = 20 then
 (Z8n [(D.agg ((List.drop 1 a0).take 17))]).bind fun d1 =>
 (rdI .i64 (some d1)).bind fun x2 =>
 cond (x2 != (0 : Int))
 (some (D.v (.int .i64 x2)))
 ((rdL a0[18]?).bind fun q3 =>
 (Zgf [(D.list q3.n q3.cap q3.cs)]).bind fun d4 =>
 (rdI .i64 (some d4)).bind fun x5 =>
 cond (x5 != (0 : Int))
 (some (D.v (.int .i64 x5)))
 ((rdL a0[19]?).bind fun q6 =>
 cond (decide ((q6.n : Int) > (8 : Int)))
 (some (D.v (.int .i64 (3 : Int))))
 (Zjl m m (0 : Int) a0)))
 else none
theorem Z19m (m : Nat) (a0 : List D) : funD Tg Ze7 m 4 Z6e Tryz.f63 [(D.agg a0)] = Zrn m a0 := by kernel_rfl
theorem Z1e3 : Enters Tg 63 := ⟨Tryz.f63,Tryz.func63,by kernel_rfl,by kernel_rfl⟩
theorem Z1e4 {ds : List D} {d : D} (h : funD Tg Ze7 M 4 Z6e Tryz.f63 ds = some d) : DataSem Tg 63 ds d := Z8 (H := Ze7) (SpOk.cons Z1bi (SpOk.cons Zzq (SpOk.cons Z1bd SpOk.nil))) mixed InlOk.nil Tryz.func63 Z1e3 h
noncomputable def Zjm : List D → Option D
  | [.agg a0] => Zrn M a0
  | _ => none
theorem Z1e5 : ∀ ds d,Zjm ds = some d → DataSem Tg 63 ds d := by
  intro ds d h
  unfold Zjm at h
  split at h
  · exact Z1e4 ((Z19m M _).trans h)
  · cases h

def Z1c : FnH := ⟨[(3,⟨(bm 102 27),[(5,1)],(some 2)⟩)],[(4,⟨(bm 102 27),[],(some 3)⟩)]⟩
noncomputable def Z2a : Hints := ⟨[],[],[]⟩
noncomputable def Z8j (m n0 : Nat) (Zl : Int) (Zt : Nat) (Zy : Int) (Z11 : Nat) (Zs : Option Nat) (Z1b : List D) (Z1o : Nat) (Z2r : List D) : Option D :=
 Z15 (bm 102 27) 0 2 (codeK Tg Z2a.sp ⟨0,[],false,[]⟩ (inlK Tg Z2a m 4) m Z1c (subc [1,1,0,1,0,0] (bodyOf Tryz.f44))) n0 ⟨[Jk,(AV.d (D.v (.int .i64 Zl))),(AV.ptr 0 0),Jk,Jk,(AV.sl 1 0 Zt none 1),(AV.d (D.v (.int .i64 Zy))),Jk,Jk,Jk,Jk,Jk,Jk,Jk,Jk,Jk,Jk,Jk,Jk,Jk,Jk,Jk,Jk,Jk,Jk,Jk,Jk],[(Blk.d 1 [(D.list Z11 Zs Z1b)]),(Blk.d Z1o Z2r)]⟩
  (contK Tg Z2a.sp ⟨0,[],false,[]⟩ (inlK Tg Z2a m 4) m Z1c (endK Tg Tryz.f44 (fun v L => viewK L 8 v some)) [.block 0,.code (subc [1,1,1] (bodyOf Tryz.f44))])
noncomputable def Zq8 (m n0 : Nat) (Z2o : Int) (Z43 : Nat) (Z3v : Int) (Z3o : Nat) (Z2d : Option Nat) (Z6d : List D) (Z7a : Nat) (Zki : List D) (Zp1 : Int) : Option D :=
 cutK m (codeK Tg Z2a.sp ⟨0,[],false,[]⟩ (inlK Tg Z2a m 4) m Z1c (subc [1,1,0,1,0,0,1,1] (bodyOf Tryz.f44)) ⟨[Jk,(AV.d (D.v (.int .i64 Z2o))),(AV.ptr 0 0),Jk,Jk,(AV.sl 1 0 Z43 none 1),(AV.d (D.v (.int .i64 Z3v))),Jk,Jk,Jk,Jk,Jk,Jk,Jk,Jk,Jk,Jk,Jk,Jk,Jk,Jk,Jk,Jk,Jk,Jk,Jk,Jk],[(Blk.d 1 [(D.list Z3o Z2d Z6d)]),(Blk.d Z7a Zki),(Blk.d 1 [(D.v (.int .i64 Zp1))])]⟩
  (contK Tg Z2a.sp ⟨0,[],false,[]⟩ (inlK Tg Z2a m 4) m Z1c (endK Tg Tryz.f44 (fun v L => viewK L 8 v some)) [.loop (bm 102 27) 2 (subc [1,1,0,1,0,0] (bodyOf Tryz.f44)) n0,.block 0,.code (subc [1,1,1] (bodyOf Tryz.f44))]))
theorem Zxl (m n0 : Nat) (Z2o : Int) (Z43 : Nat) (Z3v : Int) (Z3o : Nat) (Z2d : Option Nat) (Z6d : List D) (Z7a : Nat) (Zki : List D) (Zp1 : Int) : Zq8 m n0 Z2o Z43 Z3v Z3o Z2d Z6d Z7a Zki Zp1 =
 (Z8j m n0 Z2o Z43 (IntKind.wrap .i64 (Z3v + (1 : Int))) Z3o Z2d Z6d Z7a Zki) := (Z1t m _).trans (by kernel_rfl)
noncomputable def Zn9 (m n0 : Nat) (Z8i : Int) (Z9q : Nat) (Z9r : Int) (Za9 : Nat) (Z80 : Option Nat) (Z8s : List D) (Zf3 : Nat) (Zif : List D) : Option D :=
 cutK m (codeK Tg Z2a.sp ⟨0,[],false,[]⟩ (inlK Tg Z2a m 4) m Z1c (subc [1,1,0,1,0,0,1,1] (bodyOf Tryz.f44)) ⟨[Jk,(AV.d (D.v (.int .i64 Z8i))),(AV.ptr 0 0),Jk,Jk,(AV.sl 1 0 Z9q none 1),(AV.d (D.v (.int .i64 Z9r))),Jk,Jk,Jk,Jk,Jk,Jk,Jk,Jk,Jk,Jk,Jk,Jk,Jk,Jk,Jk,Jk,Jk,Jk,Jk,Jk],[(Blk.d 1 [(D.list Za9 Z80 Z8s)]),(Blk.d Zf3 Zif)]⟩
  (contK Tg Z2a.sp ⟨0,[],false,[]⟩ (inlK Tg Z2a m 4) m Z1c (endK Tg Tryz.f44 (fun v L => viewK L 8 v some)) [.loop (bm 102 27) 2 (subc [1,1,0,1,0,0] (bodyOf Tryz.f44)) n0,.block 0,.code (subc [1,1,1] (bodyOf Tryz.f44))]))
theorem Zug (m n0 : Nat) (Z8i : Int) (Z9q : Nat) (Z9r : Int) (Za9 : Nat) (Z80 : Option Nat) (Z8s : List D) (Zf3 : Nat) (Zif : List D) : Zn9 m n0 Z8i Z9q Z9r Za9 Z80 Z8s Zf3 Zif =
 (Z8j m n0 Z8i Z9q (IntKind.wrap .i64 (Z9r + (1 : Int))) Za9 Z80 Z8s Zf3 Zif) := (Z1t m _).trans (by kernel_rfl)
theorem Zyu (m n0 : Nat) (Zl : Int) (Zt : Nat) (Zy : Int) (Z11 : Nat) (Zs : Option Nat) (Z1b : List D) (Z1o : Nat) (Z2r : List D) : Z8j m (n0 + 1) Zl Zt Zy Z11 Zs Z1b Z1o Z2r =
 (cond (decide (Zy < (Z11 : Int)))
 (if 0 ≤ Zy ∧ Zy < (Z11 : Int) then
 (rdI .i64 Z1b[(((Int.toNat Zy) * 20) + 0)]?).bind fun x3 =>
 cond (x3 == Zl)
 (if ownB ⟨0,[],false,[]⟩ 1 = true ∧ Z1o = (Zt * 1) ∧ Z1w (Zt + 1) 8 ∧ 1 = 1 then
 Zq8 m n0 Zl (Zt + 1) Zy Z11 Zs Z1b ((Zt + 1) * 1) (Z2r ++ [(D.v (.int .i64 Zy))]) Zy
 else none)
 (Zn9 m n0 Zl Zt Zy Z11 Zs Z1b Z1o Z2r)
 else none)
 (if (0 + (Zt * 1)) ≤ Z1o then
 some (D.list Zt none (cutL Z1o Z2r 0 (Zt * 1)))
 else none)) := by kernel_rfl
noncomputable def Zgw (m : Nat) (a0_0n : Nat) (a0_0c : Option Nat) (a0_0 : List D) (a1 : Int) : Option D :=
 Z8j m m a1 0 (0 : Int) a0_0n a0_0c a0_0 0 []
theorem Z10g (m : Nat) (a0_0n : Nat) (a0_0c : Option Nat) (a0_0 : List D) (a1 : Int) : funD Tg Z2a m 4 Z1c Tryz.f44 [(D.agg [(D.list a0_0n a0_0c a0_0)]),(D.v (.int .i64 a1))] = Zgw m a0_0n a0_0c a0_0 a1 := by kernel_rfl
theorem Z14q : Enters Tg 44 := ⟨Tryz.f44,Tryz.func44,by kernel_rfl,by kernel_rfl⟩
theorem Z14r {ds : List D} {d : D} (h : funD Tg Z2a M 4 Z1c Tryz.f44 ds = some d) : DataSem Tg 44 ds d := Z8 (H := Z2a) SpOk.nil mixed InlOk.nil Tryz.func44 Z14q h
noncomputable def Z69 : List D → Option D
  | [.agg [.list a0_0n a0_0c a0_0],.v (.int .i64 a1)] => Zgw M a0_0n a0_0c a0_0 a1
  | _ => none
theorem Ztc : ∀ ds d,Z69 ds = some d → DataSem Tg 44 ds d := by
  intro ds d h
  unfold Z69 at h
  split at h
  · exact Z14r ((Z10g M _ _ _ _).trans h)
  · cases h

def Z3e : FnH := ⟨[(2,⟨(bm 170 34),[],(some 2)⟩)],[(3,⟨(bm 170 34),[],(some 2)⟩)]⟩
noncomputable def Z5l : Hints := ⟨[],[],[]⟩
noncomputable def Zjn (m n0 : Nat) (Zl : Int) (Zt : Int) (Zy : Nat) (Z11 : Option Nat) (Zs : List D) (Z1b : List D) : Option D :=
 Z15 (bm 170 34) 0 2 (codeK Tg Z5l.sp ⟨0,[],false,[]⟩ (inlK Tg Z5l m 4) m Z3e (subc [1,0,1,0,0] (bodyOf Tryz.f87))) n0 ⟨[Jk,(AV.d (D.v (.int .i64 Zl))),Jk,(AV.ptr 0 0),Jk,(AV.ptr 1 0),Jk,(AV.d (D.v (.int .i64 Zt))),Jk,Jk,Jk,Jk,Jk,Jk,Jk,Jk,Jk,Jk,Jk,Jk,Jk,Jk,Jk,Jk,Jk,Jk,Jk,Jk,Jk,Jk,Jk,Jk,Jk,Jk],[(Blk.d 1 [(D.list Zy Z11 Zs)]),(Blk.d 17 Z1b)]⟩
  (contK Tg Z5l.sp ⟨0,[],false,[]⟩ (inlK Tg Z5l m 4) m Z3e (endK Tg Tryz.f87 (fun v L => viewK L 8 v some)) [.block 0,.code (subc [1,1] (bodyOf Tryz.f87))])
noncomputable def Znp (m n0 : Nat) (Z2o : Int) (Z43 : Int) (Z3v : Nat) (Z3o : Option Nat) (Z2d : List D) (Z6d : List D) : Option D :=
 cutK m (codeK Tg Z5l.sp ⟨0,[],false,[]⟩ (inlK Tg Z5l m 4) m Z3e (subc [1,0,1,0,0,1,1] (bodyOf Tryz.f87)) ⟨[Jk,(AV.d (D.v (.int .i64 Z2o))),Jk,(AV.ptr 0 0),Jk,(AV.ptr 1 0),Jk,(AV.d (D.v (.int .i64 Z43))),Jk,Jk,Jk,Jk,Jk,Jk,Jk,Jk,Jk,Jk,Jk,Jk,Jk,Jk,Jk,Jk,Jk,Jk,Jk,Jk,Jk,Jk,Jk,Jk,Jk,Jk],[(Blk.d 1 [(D.list Z3v Z3o Z2d)]),(Blk.d 17 Z6d)]⟩
  (contK Tg Z5l.sp ⟨0,[],false,[]⟩ (inlK Tg Z5l m 4) m Z3e (endK Tg Tryz.f87 (fun v L => viewK L 8 v some)) [.loop (bm 170 34) 2 (subc [1,0,1,0,0] (bodyOf Tryz.f87)) n0,.block 0,.code (subc [1,1] (bodyOf Tryz.f87))]))
theorem Zro (m n0 : Nat) (Z2o : Int) (Z43 : Int) (Z3v : Nat) (Z3o : Option Nat) (Z2d : List D) (Z6d : List D) : Znp m n0 Z2o Z43 Z3v Z3o Z2d Z6d =
 (Zjn m n0 Z2o (IntKind.wrap .i64 (Z43 + (1 : Int))) Z3v Z3o Z2d Z6d) := (Z1t m _).trans (by kernel_rfl)
theorem Z14s (m n0 : Nat) (Zl : Int) (Zt : Int) (Zy : Nat) (Z11 : Option Nat) (Zs : List D) (Z1b : List D) : Zjn m (n0 + 1) Zl Zt Zy Z11 Zs Z1b =
 (cond (decide (Zt < (Zy : Int)))
 (if 0 ≤ Zt ∧ Zt < (Zy : Int) then
 (rdI .i64 Zs[(((Int.toNat Zt) * 20) + 0)]?).bind fun x5 =>
 cond (x5 == Zl)
 (if 0 ≤ Zt ∧ Zt < (Zy : Int) then
 if ((((Int.toNat Zt) * 20) + 1) + 17) ≤ (List.length Zs) then
 (cellsEq [.int,.int,.int,.int,.int,.int,.int,.int,.int,.int,.int,.int,.int,.int,.int,.int,.int] ((List.drop (((Int.toNat Zt) * 20) + 1) Zs).take 17) Z1b).bind fun b6 =>
 cond b6
 (some (D.v (.int .i64 Zt)))
 (Znp m n0 Zl Zt Zy Z11 Zs Z1b)
 else none
 else none)
 (Znp m n0 Zl Zt Zy Z11 Zs Z1b)
 else none)
 (some (D.v (.int .i64 (-1 : Int))))) := by kernel_rfl
noncomputable def Zp4 (m : Nat) (a0_0n : Nat) (a0_0c : Option Nat) (a0_0 : List D) (a1 : Int) (a2 : List D) : Option D :=
 if (List.length a2) = 17 then
 Zjn m m a1 (0 : Int) a0_0n a0_0c a0_0 a2
 else none
theorem Z16y (m : Nat) (a0_0n : Nat) (a0_0c : Option Nat) (a0_0 : List D) (a1 : Int) (a2 : List D) : funD Tg Z5l m 4 Z3e Tryz.f87 [(D.agg [(D.list a0_0n a0_0c a0_0)]),(D.v (.int .i64 a1)),(D.agg a2)] = Zp4 m a0_0n a0_0c a0_0 a1 a2 := by kernel_rfl
theorem Z1br : Enters Tg 87 := ⟨Tryz.f87,Tryz.func87,by kernel_rfl,by kernel_rfl⟩
theorem Z1bs {ds : List D} {d : D} (h : funD Tg Z5l M 4 Z3e Tryz.f87 ds = some d) : DataSem Tg 87 ds d := Z8 (H := Z5l) SpOk.nil mixed InlOk.nil Tryz.func87 Z1br h
noncomputable def Zgi : List D → Option D
  | [.agg [.list a0_0n a0_0c a0_0],.v (.int .i64 a1),.agg a2] => Zp4 M a0_0n a0_0c a0_0 a1 a2
  | _ => none
theorem Z1bt : ∀ ds d,Zgi ds = some d → DataSem Tg 87 ds d := by
  intro ds d h
  unfold Zgi at h
  split at h
  · exact Z1bs ((Z16y M _ _ _ _ _).trans h)
  · cases h

def Z45 : FnH := ⟨[],[(3,⟨(bm 12 56),[],(some 2)⟩),(9,⟨(bm 8 56),[],(some 2)⟩)]⟩
noncomputable def Z6u : Hints := ⟨[(34,Z29),(63,Zjm),(87,Zgi)],[],[]⟩
noncomputable def Z9k (m : Nat) (Z2o : Nat) (Z43 : Option Nat) (Z3v : List D) (Z3o : List D) : Option D :=
 cutK m (codeK Tg Z6u.sp ⟨0,[],false,[]⟩ (inlK Tg Z6u m 4) m Z45 (subc [1,1] (bodyOf Tryz.f48)) ⟨[Jk,Jk,(AV.ptr 0 0),(AV.ptr 1 0),Jk,Jk,Jk,Jk,Jk,Jk,Jk,Jk,Jk,Jk,Jk,Jk,Jk,Jk,Jk,Jk,Jk,Jk,Jk,Jk,Jk,Jk,Jk,Jk,Jk,Jk,Jk,Jk,Jk,Jk,Jk,Jk,Jk,Jk,Jk,Jk,Jk,Jk,Jk,Jk,Jk,Jk,Jk,Jk,Jk,Jk,Jk,Jk,Jk,Jk,Jk,Jk],[(Blk.d 1 [(D.list Z2o Z43 Z3v)]),(Blk.d 20 Z3o)]⟩
  (contK Tg Z6u.sp ⟨0,[],false,[]⟩ (inlK Tg Z6u m 4) m Z45 (endK Tg Tryz.f48 (fun v L => viewK L 8 v some)) []))
noncomputable def Zjo (m : Nat) (Z8i : Nat) (Z9q : Option Nat) (Z9r : List D) (Za9 : List D) : Option D :=
 cutK m (codeK Tg Z6u.sp ⟨0,[],false,[]⟩ (inlK Tg Z6u m 4) m Z45 (subc [1,1,1,1,1] (bodyOf Tryz.f48)) ⟨[Jk,Jk,Jk,(AV.ptr 1 0),Jk,Jk,Jk,Jk,Jk,Jk,Jk,Jk,Jk,Jk,Jk,Jk,Jk,Jk,Jk,Jk,Jk,Jk,Jk,Jk,Jk,Jk,Jk,Jk,Jk,Jk,Jk,Jk,Jk,Jk,Jk,Jk,Jk,Jk,Jk,Jk,Jk,Jk,Jk,Jk,Jk,Jk,Jk,Jk,Jk,Jk,Jk,Jk,Jk,Jk,Jk,Jk],[(Blk.d 1 [(D.list Z8i Z9q Z9r)]),(Blk.d 20 Za9)]⟩
  (contK Tg Z6u.sp ⟨0,[],false,[]⟩ (inlK Tg Z6u m 4) m Z45 (endK Tg Tryz.f48 (fun v L => viewK L 8 v some)) []))
theorem Z14t (m : Nat) (Z8i : Nat) (Z9q : Option Nat) (Z9r : List D) (Za9 : List D) : Zjo m Z8i Z9q Z9r Za9 =
 ((Zjm [(D.agg Za9)]).bind fun d11 =>
 (rdI .i64 (some d11)).bind fun x12 =>
 some (D.v (.int .i64 x12))) := (Z1t m _).trans (by kernel_rfl)
theorem Z14u (m : Nat) (Z2o : Nat) (Z43 : Option Nat) (Z3v : List D) (Z3o : List D) : Z9k m Z2o Z43 Z3v Z3o =
 ((rdI .i64 Z3o[0]?).bind fun x4 =>
 (Zgi [(D.agg [(D.list Z2o Z43 Z3v)]),(D.v (.int .i64 x4)),(D.agg ((List.drop 1 Z3o).take 17))]).bind fun d5 =>
 (rdI .i64 (some d5)).bind fun x6 =>
 cond (decide (x6 ≥ (0 : Int)))
 (some (D.v (.int .i64 (20 : Int))))
 (cond ((Z2o : Int) == (65536 : Int))
 (some (D.v (.int .i64 (3 : Int))))
 ((rdI .i64 Z3o[0]?).bind fun x7 =>
 cond (decide (x7 ≥ (0 : Int)))
 ((rdI .i64 Z3o[0]?).bind fun x8 =>
 (Z29 [(D.agg [(D.list Z2o Z43 Z3v)]),(D.v (.int .i64 x8))]).bind fun d9 =>
 (rdI .i64 (some d9)).bind fun x10 =>
 cond (x10 == (64 : Int))
 (some (D.v (.int .i64 (12 : Int))))
 (Zjo m Z2o Z43 Z3v Z3o))
 (Zjo m Z2o Z43 Z3v Z3o)))) := (Z1t m _).trans (by kernel_rfl)
noncomputable def Zrp (m : Nat) (a0_0n : Nat) (a0_0c : Option Nat) (a0_0 : List D) (a1 : List D) : Option D :=
 if (List.length a1) = 20 then
 cond ((a0_0n : Int) == (0 : Int))
 ((rdI .i64 a1[0]?).bind fun x1 =>
 cond (x1 != (-1 : Int))
 (some (D.v (.int .i64 (19 : Int))))
 (cond (decide ((a0_0n : Int) > (0 : Int)))
 ((rdI .i64 a1[0]?).bind fun x2 =>
 cond (decide (x2 < (0 : Int)))
 (some (D.v (.int .i64 (19 : Int))))
 ((rdI .i64 a1[0]?).bind fun x3 =>
 cond (decide (x3 ≥ (a0_0n : Int)))
 (some (D.v (.int .i64 (19 : Int))))
 (Z9k m a0_0n a0_0c a0_0 a1)))
 (Z9k m a0_0n a0_0c a0_0 a1)))
 (cond (decide ((a0_0n : Int) > (0 : Int)))
 ((rdI .i64 a1[0]?).bind fun x13 =>
 cond (decide (x13 < (0 : Int)))
 (some (D.v (.int .i64 (19 : Int))))
 ((rdI .i64 a1[0]?).bind fun x14 =>
 cond (decide (x14 ≥ (a0_0n : Int)))
 (some (D.v (.int .i64 (19 : Int))))
 (Z9k m a0_0n a0_0c a0_0 a1)))
 (Z9k m a0_0n a0_0c a0_0 a1))
 else none
theorem Z19n (m : Nat) (a0_0n : Nat) (a0_0c : Option Nat) (a0_0 : List D) (a1 : List D) : funD Tg Z6u m 4 Z45 Tryz.f48 [(D.agg [(D.list a0_0n a0_0c a0_0)]),(D.agg a1)] = Zrp m a0_0n a0_0c a0_0 a1 := by kernel_rfl
theorem Z1e6 : Enters Tg 48 := ⟨Tryz.f48,Tryz.func48,by kernel_rfl,by kernel_rfl⟩
theorem Z1e7 {ds : List D} {d : D} (h : funD Tg Z6u M 4 Z45 Tryz.f48 ds = some d) : DataSem Tg 48 ds d := Z8 (H := Z6u) (SpOk.cons Zgh (SpOk.cons Z1e5 (SpOk.cons Z1bt SpOk.nil))) mixed InlOk.nil Tryz.func48 Z1e6 h
noncomputable def Zjp : List D → Option D
  | [.agg [.list a0_0n a0_0c a0_0],.agg a1] => Zrp M a0_0n a0_0c a0_0 a1
  | _ => none
theorem Z1e8 : ∀ ds d,Zjp ds = some d → DataSem Tg 48 ds d := by
  intro ds d h
  unfold Zjp at h
  split at h
  · exact Z1e7 ((Z19n M _ _ _ _).trans h)
  · cases h

def Zu : FnH := ⟨[(4,⟨(bm 476 114),[(1003000,20)],(some 5)⟩),(18,⟨(bm 2256 114),[],(some 5)⟩)],[(10,⟨(bm 2012 114),[],(some 6)⟩),(13,⟨(bm 988 114),[],(some 6)⟩),(12,⟨(bm 988 114),[],(some 6)⟩),(17,⟨(bm 208 114),[],(some 5)⟩),(19,⟨(bm 2256 114),[],(some 5)⟩)]⟩
noncomputable def Z1h : Hints := ⟨[(62,Z52)],[],[]⟩
noncomputable def Zp5 (m n0 : Nat) (Zl : Int) (Zt : Int) (Zy : Nat) (Z11 : Option Nat) (Zs : List D) (Z1b : List D) (Z1o : Nat) (Z2r : Nat) (Z3x : List D) : Option D :=
 Z15 (bm 476 114) 0 5 (codeK Tg Z1h.sp ⟨0,[],false,[]⟩ (inlK Tg Z1h m 4) m Zu (subc [1,1,1,0,1,0,0] (bodyOf Tryz.f49))) n0 ⟨[Jk,Jk,(AV.ptr 0 0),(AV.ptr 1 0),(AV.ptr 2 0),Jk,(AV.ptr 3 0),(AV.d (D.v (.int .i64 Zl))),(AV.d (D.v (.int .i64 Zt))),Jk,Jk,Jk,Jk,Jk,Jk,Jk,Jk,Jk,Jk,Jk,Jk,Jk,Jk,Jk,Jk,Jk,Jk,Jk,Jk,Jk,Jk,Jk,Jk,Jk,Jk,Jk,Jk,Jk,Jk,Jk,Jk,Jk,Jk,Jk,Jk,Jk,Jk,Jk,Jk,Jk,Jk,Jk,Jk,Jk,Jk,Jk,Jk,Jk,Jk,Jk,Jk,Jk,Jk,Jk,Jk,Jk,Jk,Jk,Jk,Jk,Jk,Jk,Jk,Jk,Jk,Jk,Jk,Jk,Jk,Jk,Jk,Jk,Jk,Jk,Jk,Jk,Jk,Jk,Jk,Jk,Jk,Jk,Jk,Jk,Jk,Jk,Jk,Jk,Jk,Jk,Jk,Jk,Jk,Jk,Jk,Jk,Jk,Jk,Jk,Jk,Jk,Jk,Jk,Jk],[(Blk.d 1 [(D.list Zy Z11 Zs)]),(Blk.d 20 Z1b),(Blk.d 1 [(D.list 0 (some 0) [])]),(Blk.a 1 [(AV.sl 4 0 Z1o none 20)]),(Blk.d Z2r Z3x)]⟩
  (contK Tg Z1h.sp ⟨0,[],false,[]⟩ (inlK Tg Z1h m 4) m Zu (endK Tg Tryz.f49 (fun v L => viewK L 8 v some)) [.block 0,.code (subc [1,1,1,1] (bodyOf Tryz.f49))])
noncomputable def Z7r (m n0 : Nat) (Z2o : Int) (Z43 : Int) (Z3v : Int) (Z3o : Nat) (Z2d : Option Nat) (Z6d : List D) (Z7a : List D) (Zki : Nat) (Zp1 : Nat) (Z12w : List D) (Zvw : List D) : Option D :=
 cutK m (codeK Tg Z1h.sp ⟨0,[],false,[]⟩ (inlK Tg Z1h m 4) m Zu (subc [1,1,1,0,1,0,0,1,0,0,1,1,1] (bodyOf Tryz.f49)) ⟨[Jk,Jk,(AV.ptr 0 0),(AV.ptr 1 0),(AV.ptr 2 0),Jk,(AV.ptr 3 0),(AV.d (D.v (.int .i64 Z2o))),(AV.d (D.v (.int .i64 Z43))),(AV.ptr 5 0),(AV.d (D.v (.int .i64 Z3v))),Jk,Jk,Jk,Jk,Jk,Jk,Jk,Jk,Jk,Jk,Jk,Jk,Jk,Jk,Jk,Jk,Jk,Jk,Jk,Jk,Jk,Jk,Jk,Jk,Jk,Jk,Jk,Jk,Jk,Jk,Jk,Jk,Jk,Jk,Jk,Jk,Jk,Jk,Jk,Jk,Jk,Jk,Jk,Jk,Jk,Jk,Jk,Jk,Jk,Jk,Jk,Jk,Jk,Jk,Jk,Jk,Jk,Jk,Jk,Jk,Jk,Jk,Jk,Jk,Jk,Jk,Jk,Jk,Jk,Jk,Jk,Jk,Jk,Jk,Jk,Jk,Jk,Jk,Jk,Jk,Jk,Jk,Jk,Jk,Jk,Jk,Jk,Jk,Jk,Jk,Jk,Jk,Jk,Jk,Jk,Jk,Jk,Jk,Jk,Jk,Jk,Jk,Jk],[(Blk.d 1 [(D.list Z3o Z2d Z6d)]),(Blk.d 20 Z7a),(Blk.d 1 [(D.list 0 (some 0) [])]),(Blk.a 1 [(AV.sl 4 0 Zki none 20)]),(Blk.d Zp1 Z12w),(Blk.d 20 Zvw)]⟩
  (contK Tg Z1h.sp ⟨0,[],false,[]⟩ (inlK Tg Z1h m 4) m Zu (endK Tg Tryz.f49 (fun v L => viewK L 8 v some)) [.block 1,.code (subc [1,1,1,0,1,0,0,1,1] (bodyOf Tryz.f49)),.loop (bm 476 114) 5 (subc [1,1,1,0,1,0,0] (bodyOf Tryz.f49)) n0,.block 0,.code (subc [1,1,1,1] (bodyOf Tryz.f49))]))
noncomputable def Zxm (m n0 : Nat) (Z8i : Int) (Z9q : Int) (Z9r : Nat) (Za9 : Option Nat) (Z80 : List D) (Z8s : List D) (Zf3 : Nat) (Zif : Nat) (Zno : List D) (Zso : List D) : Option D :=
 cutK m (codeK Tg Z1h.sp ⟨0,[],false,[]⟩ (inlK Tg Z1h m 4) m Zu (subc [1,1,1,0,1,0,0,1,0,0,1,1,1,0,1,0,1] (bodyOf Tryz.f49)) ⟨[Jk,Jk,(AV.ptr 0 0),(AV.ptr 1 0),(AV.ptr 2 0),Jk,(AV.ptr 3 0),(AV.d (D.v (.int .i64 Z8i))),(AV.d (D.v (.int .i64 Z9q))),(AV.ptr 5 0),Jk,Jk,Jk,Jk,Jk,Jk,Jk,Jk,Jk,Jk,Jk,Jk,Jk,Jk,Jk,Jk,Jk,Jk,Jk,Jk,Jk,Jk,Jk,Jk,Jk,Jk,Jk,Jk,Jk,Jk,Jk,Jk,Jk,Jk,Jk,Jk,Jk,Jk,Jk,Jk,Jk,Jk,Jk,Jk,Jk,Jk,Jk,Jk,Jk,Jk,Jk,Jk,Jk,Jk,Jk,Jk,Jk,Jk,Jk,Jk,Jk,Jk,Jk,Jk,Jk,Jk,Jk,Jk,Jk,Jk,Jk,Jk,Jk,Jk,Jk,Jk,Jk,Jk,Jk,Jk,Jk,Jk,Jk,Jk,Jk,Jk,Jk,Jk,Jk,Jk,Jk,Jk,Jk,Jk,Jk,Jk,Jk,Jk,Jk,Jk,Jk,Jk,Jk,Jk],[(Blk.d 1 [(D.list Z9r Za9 Z80)]),(Blk.d 20 Z8s),(Blk.d 1 [(D.list 0 (some 0) [])]),(Blk.a 1 [(AV.sl 4 0 Zf3 none 20)]),(Blk.d Zif Zno),(Blk.d 20 Zso)]⟩
  (contK Tg Z1h.sp ⟨0,[],false,[]⟩ (inlK Tg Z1h m 4) m Zu (endK Tg Tryz.f49 (fun v L => viewK L 8 v some)) [.code (subc [1,1,1,0,1,0,0,1,0,0,1,1,1,1] (bodyOf Tryz.f49)),.block 1,.code (subc [1,1,1,0,1,0,0,1,1] (bodyOf Tryz.f49)),.loop (bm 476 114) 5 (subc [1,1,1,0,1,0,0] (bodyOf Tryz.f49)) n0,.block 0,.code (subc [1,1,1,1] (bodyOf Tryz.f49))]))
noncomputable def Ze8 (m n0 : Nat) (Ze6 : Int) (Zvv : Int) (Zud : Nat) (Zvn : Option Nat) (Zvo : List D) (Zw7 : List D) (Zyi : Nat) (Z10e : Nat) (Z10f : List D) (Z14v : List D) : Option D :=
 cutK m (codeK Tg Z1h.sp ⟨0,[],false,[]⟩ (inlK Tg Z1h m 4) m Zu (subc [1,1,1,0,1,0,0,1,0,0,1,1,1,1] (bodyOf Tryz.f49)) ⟨[Jk,Jk,(AV.ptr 0 0),(AV.ptr 1 0),(AV.ptr 2 0),Jk,(AV.ptr 3 0),(AV.d (D.v (.int .i64 Ze6))),(AV.d (D.v (.int .i64 Zvv))),(AV.ptr 5 0),Jk,Jk,Jk,Jk,Jk,Jk,Jk,Jk,Jk,Jk,Jk,Jk,Jk,Jk,Jk,Jk,Jk,Jk,Jk,Jk,Jk,Jk,Jk,Jk,Jk,Jk,Jk,Jk,Jk,Jk,Jk,Jk,Jk,Jk,Jk,Jk,Jk,Jk,Jk,Jk,Jk,Jk,Jk,Jk,Jk,Jk,Jk,Jk,Jk,Jk,Jk,Jk,Jk,Jk,Jk,Jk,Jk,Jk,Jk,Jk,Jk,Jk,Jk,Jk,Jk,Jk,Jk,Jk,Jk,Jk,Jk,Jk,Jk,Jk,Jk,Jk,Jk,Jk,Jk,Jk,Jk,Jk,Jk,Jk,Jk,Jk,Jk,Jk,Jk,Jk,Jk,Jk,Jk,Jk,Jk,Jk,Jk,Jk,Jk,Jk,Jk,Jk,Jk,Jk],[(Blk.d 1 [(D.list Zud Zvn Zvo)]),(Blk.d 20 Zw7),(Blk.d 1 [(D.list 0 (some 0) [])]),(Blk.a 1 [(AV.sl 4 0 Zyi none 20)]),(Blk.d Z10e Z10f),(Blk.d 20 Z14v)]⟩
  (contK Tg Z1h.sp ⟨0,[],false,[]⟩ (inlK Tg Z1h m 4) m Zu (endK Tg Tryz.f49 (fun v L => viewK L 8 v some)) [.block 1,.code (subc [1,1,1,0,1,0,0,1,1] (bodyOf Tryz.f49)),.loop (bm 476 114) 5 (subc [1,1,1,0,1,0,0] (bodyOf Tryz.f49)) n0,.block 0,.code (subc [1,1,1,1] (bodyOf Tryz.f49))]))
theorem Z14w (m n0 : Nat) (Ze6 : Int) (Zvv : Int) (Zud : Nat) (Zvn : Option Nat) (Zvo : List D) (Zw7 : List D) (Zyi : Nat) (Z10e : Nat) (Z10f : List D) (Z14v : List D) : Ze8 m n0 Ze6 Zvv Zud Zvn Zvo Zw7 Zyi Z10e Z10f Z14v =
 (if (List.length Z14v) = 20 then
 if ownB ⟨0,[],false,[]⟩ 4 = true ∧ Z10e = (Zyi * 20) ∧ Z1w (Zyi + 1) 128 ∧ (List.length Z14v) = 20 then
 Zp5 m n0 Ze6 (IntKind.wrap .i64 (Zvv + (1 : Int))) Zud Zvn Zvo Zw7 (Zyi + 1) ((Zyi + 1) * 20) (Z10f ++ Z14v)
 else none
 else none) := (Z1t m _).trans (by kernel_rfl)
theorem Z14x (m n0 : Nat) (Z8i : Int) (Z9q : Int) (Z9r : Nat) (Za9 : Option Nat) (Z80 : List D) (Z8s : List D) (Zf3 : Nat) (Zif : Nat) (Zno : List D) (Zso : List D) : Zxm m n0 Z8i Z9q Z9r Za9 Z80 Z8s Zf3 Zif Zno Zso =
 (if (List.length Z8s) = 20 then
 if ownB ⟨0,[],false,[]⟩ 4 = true ∧ Zif = (Zf3 * 20) ∧ Z1w (Zf3 + 1) 128 ∧ (List.length Z8s) = 20 then
 Ze8 m n0 Z8i Z9q Z9r Za9 Z80 Z8s (Zf3 + 1) ((Zf3 + 1) * 20) (Zno ++ Z8s) Zso
 else none
 else none) := (Z1t m _).trans (by kernel_rfl)
theorem Z14y (m n0 : Nat) (Z2o : Int) (Z43 : Int) (Z3v : Int) (Z3o : Nat) (Z2d : Option Nat) (Z6d : List D) (Z7a : List D) (Zki : Nat) (Zp1 : Nat) (Z12w : List D) (Zvw : List D) : Z7r m n0 Z2o Z43 Z3v Z3o Z2d Z6d Z7a Zki Zp1 Z12w Zvw =
 (cond (decide (Z2o < (0 : Int)))
 (cond (Z3v == (1 : Int))
 (Zxm m n0 (Zki : Int) Z43 Z3o Z2d Z6d Z7a Zki Zp1 Z12w Zvw)
 (Ze8 m n0 Z2o Z43 Z3o Z2d Z6d Z7a Zki Zp1 Z12w Zvw))
 (Ze8 m n0 Z2o Z43 Z3o Z2d Z6d Z7a Zki Zp1 Z12w Zvw)) := (Z1t m _).trans (by kernel_rfl)
noncomputable def Zq9 (m : Nat) (Z1lc : Int) (Z1mo : Nat) (Z1nv : Option Nat) (Z1mp : List D) (Z1mq : List D) (Z1mr : Nat) (Z1ms : Nat) (Z1ma : List D) : Option D :=
 cutK m (codeK Tg Z1h.sp ⟨0,[],false,[]⟩ (inlK Tg Z1h m 4) m Zu (subc [1,1,1,1,1] (bodyOf Tryz.f49)) ⟨[Jk,Jk,Jk,Jk,(AV.ptr 2 0),Jk,(AV.ptr 3 0),(AV.d (D.v (.int .i64 Z1lc))),Jk,Jk,Jk,Jk,Jk,Jk,Jk,Jk,Jk,Jk,Jk,Jk,Jk,Jk,Jk,Jk,Jk,Jk,Jk,Jk,Jk,Jk,Jk,Jk,Jk,Jk,Jk,Jk,Jk,Jk,Jk,Jk,Jk,Jk,Jk,Jk,Jk,Jk,Jk,Jk,Jk,Jk,Jk,Jk,Jk,Jk,Jk,Jk,Jk,Jk,Jk,Jk,Jk,Jk,Jk,Jk,Jk,Jk,Jk,Jk,Jk,Jk,Jk,Jk,Jk,Jk,Jk,Jk,Jk,Jk,Jk,Jk,Jk,Jk,Jk,Jk,Jk,Jk,Jk,Jk,Jk,Jk,Jk,Jk,Jk,Jk,Jk,Jk,Jk,Jk,Jk,Jk,Jk,Jk,Jk,Jk,Jk,Jk,Jk,Jk,Jk,Jk,Jk,Jk,Jk,Jk],[(Blk.d 1 [(D.list Z1mo Z1nv Z1mp)]),(Blk.d 20 Z1mq),(Blk.d 1 [(D.list 0 (some 0) [])]),(Blk.a 1 [(AV.sl 4 0 Z1mr none 20)]),(Blk.d Z1ms Z1ma)]⟩
  (contK Tg Z1h.sp ⟨0,[],false,[]⟩ (inlK Tg Z1h m 4) m Zu (endK Tg Tryz.f49 (fun v L => viewK L 8 v some)) []))
noncomputable def Zlr (m n0 : Nat) (Z44 : Int) (Z7b : Int) (Z5a : Nat) (Z6f : Option Nat) (Z5b : List D) (Z62 : List D) (Z4q : Nat) (Z54 : Nat) (Z5c : List D) : Option D :=
 Z15 (bm 2256 114) 0 5 (codeK Tg Z1h.sp ⟨0,[],false,[]⟩ (inlK Tg Z1h m 4) m Zu (subc [1,1,1,1,1,0,1,0,0] (bodyOf Tryz.f49))) n0 ⟨[Jk,Jk,Jk,Jk,(AV.ptr 2 0),Jk,(AV.ptr 3 0),(AV.d (D.v (.int .i64 Z44))),Jk,Jk,Jk,(AV.d (D.v (.int .i64 Z7b))),Jk,Jk,Jk,Jk,Jk,Jk,Jk,Jk,Jk,Jk,Jk,Jk,Jk,Jk,Jk,Jk,Jk,Jk,Jk,Jk,Jk,Jk,Jk,Jk,Jk,Jk,Jk,Jk,Jk,Jk,Jk,Jk,Jk,Jk,Jk,Jk,Jk,Jk,Jk,Jk,Jk,Jk,Jk,Jk,Jk,Jk,Jk,Jk,Jk,Jk,Jk,Jk,Jk,Jk,Jk,Jk,Jk,Jk,Jk,Jk,Jk,Jk,Jk,Jk,Jk,Jk,Jk,Jk,Jk,Jk,Jk,Jk,Jk,Jk,Jk,Jk,Jk,Jk,Jk,Jk,Jk,Jk,Jk,Jk,Jk,Jk,Jk,Jk,Jk,Jk,Jk,Jk,Jk,Jk,Jk,Jk,Jk,Jk,Jk,Jk,Jk,Jk],[(Blk.d 1 [(D.list Z5a Z6f Z5b)]),(Blk.d 20 Z62),(Blk.d 1 [(D.list 0 (some 0) [])]),(Blk.a 1 [(AV.sl 4 0 Z4q none 20)]),(Blk.d Z54 Z5c)]⟩
  (contK Tg Z1h.sp ⟨0,[],false,[]⟩ (inlK Tg Z1h m 4) m Zu (endK Tg Tryz.f49 (fun v L => viewK L 8 v some)) [.block 2,.code (subc [1,1,1,1,1,1] (bodyOf Tryz.f49))])
noncomputable def Zjq (m n0 : Nat) (Z1or : Int) (Z1os : Int) (Z1ot : Nat) (Z1ou : Option Nat) (Z1ov : List D) (Z1ow : List D) (Z1ox : Nat) (Z1oy : Nat) (Z1oz : List D) : Option D :=
 cutK m (codeK Tg Z1h.sp ⟨0,[],false,[]⟩ (inlK Tg Z1h m 4) m Zu (subc [1,1,1,1,1,0,1,0,0,1,1] (bodyOf Tryz.f49)) ⟨[Jk,Jk,Jk,Jk,(AV.ptr 2 0),Jk,(AV.ptr 3 0),(AV.d (D.v (.int .i64 Z1or))),Jk,Jk,Jk,(AV.d (D.v (.int .i64 Z1os))),Jk,Jk,Jk,Jk,Jk,Jk,Jk,Jk,Jk,Jk,Jk,Jk,Jk,Jk,Jk,Jk,Jk,Jk,Jk,Jk,Jk,Jk,Jk,Jk,Jk,Jk,Jk,Jk,Jk,Jk,Jk,Jk,Jk,Jk,Jk,Jk,Jk,Jk,Jk,Jk,Jk,Jk,Jk,Jk,Jk,Jk,Jk,Jk,Jk,Jk,Jk,Jk,Jk,Jk,Jk,Jk,Jk,Jk,Jk,Jk,Jk,Jk,Jk,Jk,Jk,Jk,Jk,Jk,Jk,Jk,Jk,Jk,Jk,Jk,Jk,Jk,Jk,Jk,Jk,Jk,Jk,Jk,Jk,Jk,Jk,Jk,Jk,Jk,Jk,Jk,Jk,Jk,Jk,Jk,Jk,Jk,Jk,Jk,Jk,Jk,Jk,Jk],[(Blk.d 1 [(D.list Z1ot Z1ou Z1ov)]),(Blk.d 20 Z1ow),(Blk.d 1 [(D.list 0 (some 0) [])]),(Blk.a 1 [(AV.sl 4 0 Z1ox none 20)]),(Blk.d Z1oy Z1oz)]⟩
  (contK Tg Z1h.sp ⟨0,[],false,[]⟩ (inlK Tg Z1h m 4) m Zu (endK Tg Tryz.f49 (fun v L => viewK L 8 v some)) [.loop (bm 2256 114) 5 (subc [1,1,1,1,1,0,1,0,0] (bodyOf Tryz.f49)) n0,.block 2,.code (subc [1,1,1,1,1,1] (bodyOf Tryz.f49))]))
theorem Zl5 (m n0 : Nat) (Z1or : Int) (Z1os : Int) (Z1ot : Nat) (Z1ou : Option Nat) (Z1ov : List D) (Z1ow : List D) (Z1ox : Nat) (Z1oy : Nat) (Z1oz : List D) : Zjq m n0 Z1or Z1os Z1ot Z1ou Z1ov Z1ow Z1ox Z1oy Z1oz =
 (Zlr m n0 Z1or (IntKind.wrap .i64 (Z1os + (1 : Int))) Z1ot Z1ou Z1ov Z1ow Z1ox Z1oy Z1oz) := (Z1t m _).trans (by kernel_rfl)
theorem Z16z (m n0 : Nat) (Z44 : Int) (Z7b : Int) (Z5a : Nat) (Z6f : Option Nat) (Z5b : List D) (Z62 : List D) (Z4q : Nat) (Z54 : Nat) (Z5c : List D) : Zlr m (n0 + 1) Z44 Z7b Z5a Z6f Z5b Z62 Z4q Z54 Z5c =
 (cond (decide (Z7b < (Z4q : Int)))
 (cond (Z7b != Z44)
 (if 0 ≤ Z7b ∧ Z7b < (Z4q : Int) then
 (rdI .i64 Z5c[((0 + ((Int.toNat Z7b) * 20)) + 0)]?).bind fun x23 =>
 cond (decide (x23 ≥ Z44))
 (if 0 ≤ Z7b ∧ Z7b < (Z4q : Int) then
 (rdI .i64 Z5c[((0 + ((Int.toNat Z7b) * 20)) + 0)]?).bind fun x24 =>
 if 0 ≤ Z7b ∧ Z7b < (Z4q : Int) then
 if 1 = 1 ∧ ((0 + ((Int.toNat Z7b) * 20)) + 0) < Z54 then
 Zjq m n0 Z44 Z7b Z5a Z6f Z5b Z62 Z4q Z54 (List.set Z5c ((0 + ((Int.toNat Z7b) * 20)) + 0) (D.v (.int .i64 (IntKind.wrap .i64 (x24 + (1 : Int))))))
 else none
 else none
 else none)
 (Zjq m n0 Z44 Z7b Z5a Z6f Z5b Z62 Z4q Z54 Z5c)
 else none)
 (Zjq m n0 Z44 Z7b Z5a Z6f Z5b Z62 Z4q Z54 Z5c))
 (if (0 + (Z4q * 20)) ≤ Z54 then
 some (D.tup [(D.agg [(D.list Z4q none (cutL Z54 Z5c 0 (Z4q * 20)))]),(D.v (.int .i64 Z44))])
 else none)) := by kernel_rfl
theorem Ztd (m : Nat) (Z1lc : Int) (Z1mo : Nat) (Z1nv : Option Nat) (Z1mp : List D) (Z1mq : List D) (Z1mr : Nat) (Z1ms : Nat) (Z1ma : List D) : Zq9 m Z1lc Z1mo Z1nv Z1mp Z1mq Z1mr Z1ms Z1ma =
 (Zlr m m Z1lc (0 : Int) Z1mo Z1nv Z1mp Z1mq Z1mr Z1ms Z1ma) := (Z1t m _).trans (by kernel_rfl)
theorem Z19o (m n0 : Nat) (Zl : Int) (Zt : Int) (Zy : Nat) (Z11 : Option Nat) (Zs : List D) (Z1b : List D) (Z1o : Nat) (Z2r : Nat) (Z3x : List D) : Zp5 m (n0 + 1) Zl Zt Zy Z11 Zs Z1b Z1o Z2r Z3x =
 (cond (decide (Zt < (Zy : Int)))
 (if 0 ≤ Zt ∧ Zt < (Zy : Int) then
 if (((Int.toNat Zt) * 20) + 20) ≤ (List.length Zs) then
 if (List.length ((List.drop ((Int.toNat Zt) * 20) Zs).take 20)) = 20 then
 cond (decide (Zt > (0 : Int)))
 ((rdI .i64 ((List.drop ((Int.toNat Zt) * 20) Zs).take 20)[0]?).bind fun x13 =>
 (rdI .i64 Z1b[0]?).bind fun x14 =>
 cond (decide (x13 > x14))
 (Z7r m n0 Zl Zt (1 : Int) Zy Z11 Zs Z1b Z1o Z2r Z3x ((List.drop ((Int.toNat Zt) * 20) Zs).take 20))
 ((rdI .i64 ((List.drop ((Int.toNat Zt) * 20) Zs).take 20)[0]?).bind fun x15 =>
 (rdI .i64 Z1b[0]?).bind fun x16 =>
 cond (x15 == x16)
 ((Z52 [(D.agg ((List.drop 1 ((List.drop ((Int.toNat Zt) * 20) Zs).take 20)).take 17)),(D.agg ((List.drop 1 Z1b).take 17))]).bind fun d17 =>
 (rdI .i64 (some d17)).bind fun x18 =>
 cond (decide (x18 > (0 : Int)))
 (Z7r m n0 Zl Zt (1 : Int) Zy Z11 Zs Z1b Z1o Z2r Z3x ((List.drop ((Int.toNat Zt) * 20) Zs).take 20))
 (Z7r m n0 Zl Zt (0 : Int) Zy Z11 Zs Z1b Z1o Z2r Z3x ((List.drop ((Int.toNat Zt) * 20) Zs).take 20)))
 (Z7r m n0 Zl Zt (0 : Int) Zy Z11 Zs Z1b Z1o Z2r Z3x ((List.drop ((Int.toNat Zt) * 20) Zs).take 20))))
 (Z7r m n0 Zl Zt (0 : Int) Zy Z11 Zs Z1b Z1o Z2r Z3x ((List.drop ((Int.toNat Zt) * 20) Zs).take 20))
 else none
 else none
 else none)
 (cond (decide (Zl < (0 : Int)))
 (if (List.length Z1b) = 20 then
 if ownB ⟨0,[],false,[]⟩ 4 = true ∧ Z2r = (Z1o * 20) ∧ Z1w (Z1o + 1) 128 ∧ (List.length Z1b) = 20 then
 Zq9 m (Z1o : Int) Zy Z11 Zs Z1b (Z1o + 1) ((Z1o + 1) * 20) (Z3x ++ Z1b)
 else none
 else none)
 (Zq9 m Zl Zy Z11 Zs Z1b Z1o Z2r Z3x))) := by kernel_rfl
noncomputable def Zuh (m : Nat) (a0_0n : Nat) (a0_0c : Option Nat) (a0_0 : List D) (a1 : List D) : Option D :=
 if (List.length a1) = 20 then
 Zp5 m m (-1 : Int) (0 : Int) a0_0n a0_0c a0_0 a1 0 0 []
 else none
theorem Z1bu (m : Nat) (a0_0n : Nat) (a0_0c : Option Nat) (a0_0 : List D) (a1 : List D) : funD Tg Z1h m 4 Zu Tryz.f49 [(D.agg [(D.list a0_0n a0_0c a0_0)]),(D.agg a1)] = Zuh m a0_0n a0_0c a0_0 a1 := by kernel_rfl
theorem Z1gu : Enters Tg 49 := ⟨Tryz.f49,Tryz.func49,by kernel_rfl,by kernel_rfl⟩
theorem Z1gv {ds : List D} {d : D} (h : funD Tg Z1h M 4 Zu Tryz.f49 ds = some d) : DataSem Tg 49 ds d := Z8 (H := Z1h) (SpOk.cons Znm SpOk.nil) mixed InlOk.nil Tryz.func49 Z1gu h
noncomputable def Zna : List D → Option D
  | [.agg [.list a0_0n a0_0c a0_0],.agg a1] => Zuh M a0_0n a0_0c a0_0 a1
  | _ => none
theorem Z1gw : ∀ ds d,Zna ds = some d → DataSem Tg 49 ds d := by
  intro ds d h
  unfold Zna at h
  split at h
  · exact Z1gv ((Z1bu M _ _ _ _).trans h)
  · cases h

def Z1p : FnH := ⟨[(3,⟨(bm 30 64),[],(some 3)⟩)],[(5,⟨(bm 30 64),[],(some 3)⟩),(8,⟨(bm 62 64),[],(some 4)⟩),(4,⟨(bm 30 64),[],(some 3)⟩)]⟩
noncomputable def Z2t : Hints := ⟨[(38,Z6t),(48,Zjp),(49,Zna),(72,Zn8),(73,Zgg)],[],[]⟩
noncomputable def Zls (m n0 : Nat) (Zl : Int) (Zt : Nat) (Zy : Option Nat) (Z11 : List D) (Zs : List D) : Option D :=
 Z15 (bm 30 64) 0 3 (codeK Tg Z2t.sp ⟨0,[],false,[]⟩ (inlK Tg Z2t m 4) m Z1p (subc [1,1,0,1,0,0] (bodyOf Tryz.f24))) n0 ⟨[Jk,(AV.ptr 0 0),(AV.ptr 1 0),(AV.ptr 2 0),(AV.d (D.v (.int .i64 Zl))),Jk,Jk,Jk,Jk,Jk,Jk,Jk,Jk,Jk,Jk,Jk,Jk,Jk,Jk,Jk,Jk,Jk,Jk,Jk,Jk,Jk,Jk,Jk,Jk,Jk,Jk,Jk,Jk,Jk,Jk,Jk,Jk,Jk,Jk,Jk,Jk,Jk,Jk,Jk,Jk,Jk,Jk,Jk,Jk,Jk,Jk,Jk,Jk,Jk,Jk,Jk,Jk,Jk,Jk,Jk,Jk,Jk,Jk,Jk],[(Blk.d 1 [(D.list Zt Zy Z11)]),(Blk.d 1 [(D.list 0 (some 0) [])]),(Blk.d 1 Zs)]⟩
  (contK Tg Z2t.sp ⟨0,[],false,[]⟩ (inlK Tg Z2t m 4) m Z1p (endK Tg Tryz.f24 (fun v L => viewK L 8 v some)) [.block 0,.code (subc [1,1,1] (bodyOf Tryz.f24))])
noncomputable def Zxn (m n0 : Nat) (Z2o : Int) (Z43 : Nat) (Z3v : Option Nat) (Z3o : List D) (Z2d : List D) : Option D :=
 cutK m (codeK Tg Z2t.sp ⟨0,[],false,[]⟩ (inlK Tg Z2t m 4) m Z1p (subc [1,1,0,1,0,0,1] (bodyOf Tryz.f24)) ⟨[Jk,(AV.ptr 0 0),(AV.ptr 1 0),(AV.ptr 2 0),(AV.d (D.v (.int .i64 Z2o))),Jk,Jk,Jk,Jk,Jk,Jk,Jk,Jk,Jk,Jk,Jk,Jk,Jk,Jk,Jk,Jk,Jk,Jk,Jk,Jk,Jk,Jk,Jk,Jk,Jk,Jk,Jk,Jk,Jk,Jk,Jk,Jk,Jk,Jk,Jk,Jk,Jk,Jk,Jk,Jk,Jk,Jk,Jk,Jk,Jk,Jk,Jk,Jk,Jk,Jk,Jk,Jk,Jk,Jk,Jk,Jk,Jk,Jk,Jk],[(Blk.d 1 [(D.list Z43 Z3v Z3o)]),(Blk.d 1 [(D.list 0 (some 0) [])]),(Blk.d 1 Z2d)]⟩
  (contK Tg Z2t.sp ⟨0,[],false,[]⟩ (inlK Tg Z2t m 4) m Z1p (endK Tg Tryz.f24 (fun v L => viewK L 8 v some)) [.loop (bm 30 64) 3 (subc [1,1,0,1,0,0] (bodyOf Tryz.f24)) n0,.block 0,.code (subc [1,1,1] (bodyOf Tryz.f24))]))
noncomputable def Zjr (m n0 : Nat) (Z8i : Int) (Z9q : Nat) (Z9r : Option Nat) (Za9 : List D) (Z80 : List D) (Z8s : List D) : Option D :=
 cutK m (codeK Tg Z2t.sp ⟨0,[],false,[]⟩ (inlK Tg Z2t m 4) m Z1p (subc [1,1,0,1,0,0,1,0,0,1,1] (bodyOf Tryz.f24)) ⟨[Jk,(AV.ptr 0 0),(AV.ptr 1 0),(AV.ptr 2 0),(AV.d (D.v (.int .i64 Z8i))),(AV.ptr 3 0),Jk,Jk,Jk,Jk,Jk,Jk,Jk,Jk,Jk,Jk,Jk,Jk,Jk,Jk,Jk,Jk,Jk,Jk,Jk,Jk,Jk,Jk,Jk,Jk,Jk,Jk,Jk,Jk,Jk,Jk,Jk,Jk,Jk,Jk,Jk,Jk,Jk,Jk,Jk,Jk,Jk,Jk,Jk,Jk,Jk,Jk,Jk,Jk,Jk,Jk,Jk,Jk,Jk,Jk,Jk,Jk,Jk,Jk],[(Blk.d 1 [(D.list Z9q Z9r Za9)]),(Blk.d 1 [(D.list 0 (some 0) [])]),(Blk.d 1 Z80),(Blk.d 20 Z8s)]⟩
  (contK Tg Z2t.sp ⟨0,[],false,[]⟩ (inlK Tg Z2t m 4) m Z1p (endK Tg Tryz.f24 (fun v L => viewK L 8 v some)) [.block 1,.code (subc [1,1,0,1,0,0,1,1] (bodyOf Tryz.f24)),.loop (bm 30 64) 3 (subc [1,1,0,1,0,0] (bodyOf Tryz.f24)) n0,.block 0,.code (subc [1,1,1] (bodyOf Tryz.f24))]))
noncomputable def Zqa (m n0 : Nat) (Ze6 : Int) (Zvv : Nat) (Zud : Option Nat) (Zvn : List D) (Zvo : List D) : Option D :=
 cutK m (codeK Tg Z2t.sp ⟨0,[],false,[]⟩ (inlK Tg Z2t m 4) m Z1p (subc [1,1,0,1,0,0,1,1] (bodyOf Tryz.f24)) ⟨[Jk,(AV.ptr 0 0),(AV.ptr 1 0),(AV.ptr 2 0),(AV.d (D.v (.int .i64 Ze6))),Jk,Jk,Jk,Jk,Jk,Jk,Jk,Jk,Jk,Jk,Jk,Jk,Jk,Jk,Jk,Jk,Jk,Jk,Jk,Jk,Jk,Jk,Jk,Jk,Jk,Jk,Jk,Jk,Jk,Jk,Jk,Jk,Jk,Jk,Jk,Jk,Jk,Jk,Jk,Jk,Jk,Jk,Jk,Jk,Jk,Jk,Jk,Jk,Jk,Jk,Jk,Jk,Jk,Jk,Jk,Jk,Jk,Jk,Jk],[(Blk.d 1 [(D.list Zvv Zud Zvn)]),(Blk.d 1 [(D.list 0 (some 0) [])]),(Blk.d 1 Zvo)]⟩
  (contK Tg Z2t.sp ⟨0,[],false,[]⟩ (inlK Tg Z2t m 4) m Z1p (endK Tg Tryz.f24 (fun v L => viewK L 8 v some)) [.loop (bm 30 64) 3 (subc [1,1,0,1,0,0] (bodyOf Tryz.f24)) n0,.block 0,.code (subc [1,1,1] (bodyOf Tryz.f24))]))
theorem Zte (m n0 : Nat) (Ze6 : Int) (Zvv : Nat) (Zud : Option Nat) (Zvn : List D) (Zvo : List D) : Zqa m n0 Ze6 Zvv Zud Zvn Zvo =
 (Zls m n0 (IntKind.wrap .i64 (Ze6 + (1 : Int))) Zvv Zud Zvn Zvo) := (Z1t m _).trans (by kernel_rfl)
theorem Z14z (m n0 : Nat) (Z8i : Int) (Z9q : Nat) (Z9r : Option Nat) (Za9 : List D) (Z80 : List D) (Z8s : List D) : Zjr m n0 Z8i Z9q Z9r Za9 Z80 Z8s =
 ((Zjp [(D.agg Z80),(D.agg Z8s)]).bind fun d50 =>
 (rdI .i64 (some d50)).bind fun x51 =>
 cond (x51 == (0 : Int))
 ((Zna [(D.agg Z80),(D.agg Z8s)]).bind fun d52 =>
 (rdT d52).bind fun r53 =>
 if List.length r53 = 2 then
 (rdA r53[0]?).bind fun c54 =>
 (rdI .i64 r53[1]?).bind fun x55 =>
 if (List.length c54) = 1 then
 Zqa m n0 Z8i Z9q Z9r Za9 c54
 else none
 else none)
 (Zqa m n0 Z8i Z9q Z9r Za9 Z80)) := (Z1t m _).trans (by kernel_rfl)
theorem Z150 (m n0 : Nat) (Z2o : Int) (Z43 : Nat) (Z3v : Option Nat) (Z3o : List D) (Z2d : List D) : Zxn m n0 Z2o Z43 Z3v Z3o Z2d =
 (if 0 ≤ Z2o ∧ Z2o < (Z43 : Int) then
 (rdI .u8 Z3o[(((Int.toNat Z2o) * 4) + 1)]?).bind fun x39 =>
 (Z6t [(D.v (.int .u8 x39))]).bind fun d40 =>
 (rdA (some d40)).bind fun c41 =>
 if 0 ≤ Z2o ∧ Z2o < (Z43 : Int) then
 (rdI .u8 Z3o[(((Int.toNat Z2o) * 4) + 2)]?).bind fun x42 =>
 (Zn8 [(D.v (.int .u8 x42))]).bind fun d43 =>
 (rdL (some d43)).bind fun q44 =>
 if 0 ≤ Z2o ∧ Z2o < (Z43 : Int) then
 (rdI .u8 Z3o[(((Int.toNat Z2o) * 4) + 3)]?).bind fun x45 =>
 (Zgg [(D.v (.int .u8 x45))]).bind fun d46 =>
 (rdL (some d46)).bind fun q47 =>
 if (List.length c41) = 17 then
 if (List.length (List.set (List.set (putL 20 [(D.v (.int .i64 (-1 : Int))),(D.v (.int .u8 (0 : Int))),zU,zU,zU,zU,zU,zU,zU,zU,zU,zU,zU,zU,zU,zU,zU,zU,(D.list 0 (some 0) []),(D.list 0 (some 0) [])] 1 17 c41) 18 (D.list q44.n q44.cap q44.cs)) 19 (D.list q47.n q47.cap q47.cs))) = 20 then
 cond (decide (Z2o > (0 : Int)))
 (if 0 ≤ Z2o ∧ Z2o < (Z43 : Int) then
 (rdI .u8 Z3o[(((Int.toNat Z2o) * 4) + 0)]?).bind fun x48 =>
 (rdL Z2d[0]?).bind fun q49 =>
 if (q49.n : Int) = 0 then none else
 Zjr m n0 Z2o Z43 Z3v Z3o Z2d (List.set (List.set (List.set (putL 20 [(D.v (.int .i64 (-1 : Int))),(D.v (.int .u8 (0 : Int))),zU,zU,zU,zU,zU,zU,zU,zU,zU,zU,zU,zU,zU,zU,zU,zU,(D.list 0 (some 0) []),(D.list 0 (some 0) [])] 1 17 c41) 18 (D.list q44.n q44.cap q44.cs)) 19 (D.list q47.n q47.cap q47.cs)) 0 (D.v (.int .i64 (Int.tmod (IntKind.wrap .i64 x48) (q49.n : Int)))))
 else none)
 (Zjr m n0 Z2o Z43 Z3v Z3o Z2d (List.set (List.set (putL 20 [(D.v (.int .i64 (-1 : Int))),(D.v (.int .u8 (0 : Int))),zU,zU,zU,zU,zU,zU,zU,zU,zU,zU,zU,zU,zU,zU,zU,zU,(D.list 0 (some 0) []),(D.list 0 (some 0) [])] 1 17 c41) 18 (D.list q44.n q44.cap q44.cs)) 19 (D.list q47.n q47.cap q47.cs)))
 else none
 else none
 else none
 else none
 else none) := (Z1t m _).trans (by kernel_rfl)
theorem Z170 (m n0 : Nat) (Zl : Int) (Zt : Nat) (Zy : Option Nat) (Z11 : List D) (Zs : List D) : Zls m (n0 + 1) Zl Zt Zy Z11 Zs =
 (cond (decide (Zl < (Zt : Int)))
 (cond (decide (Zl < (25 : Int)))
 (Zxn m n0 Zl Zt Zy Z11 Zs)
 (if (List.length Zs) = 1 then
 some (D.agg Zs)
 else none))
 (if (List.length Zs) = 1 then
 some (D.agg Zs)
 else none)) := by kernel_rfl
noncomputable def Z162 (m : Nat) (a0_0n : Nat) (a0_0c : Option Nat) (a0_0 : List D) : Option D :=
 Zls m m (0 : Int) a0_0n a0_0c a0_0 [(D.list 0 (some 0) [])]
theorem Z19p (m : Nat) (a0_0n : Nat) (a0_0c : Option Nat) (a0_0 : List D) : funD Tg Z2t m 4 Z1p Tryz.f24 [(D.agg [(D.list a0_0n a0_0c a0_0)])] = Z162 m a0_0n a0_0c a0_0 := by kernel_rfl
theorem Z1e9 : Enters Tg 24 := ⟨Tryz.f24,Tryz.func24,by kernel_rfl,by kernel_rfl⟩
theorem Z1ea {ds : List D} {d : D} (h : funD Tg Z2t M 4 Z1p Tryz.f24 ds = some d) : DataSem Tg 24 ds d := Z8 (H := Z2t) (SpOk.cons Zq6 (SpOk.cons Z1e8 (SpOk.cons Z1gw (SpOk.cons Z1gt (SpOk.cons Z1bm SpOk.nil))))) mixed InlOk.nil Tryz.func24 Z1e9 h
noncomputable def Z27 : List D → Option D
  | [.agg [.list a0_0n a0_0c a0_0]] => Z162 M a0_0n a0_0c a0_0
  | _ => none
theorem Zui : ∀ ds d,Z27 ds = some d → DataSem Tg 24 ds d := by
  intro ds d h
  unfold Z27 at h
  split at h
  · exact Z1ea ((Z19p M _ _ _).trans h)
  · cases h

end Go.Ev
