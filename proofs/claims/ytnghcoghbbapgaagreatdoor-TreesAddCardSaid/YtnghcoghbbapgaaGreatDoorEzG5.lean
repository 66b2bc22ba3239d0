/- Functions of the given program in plain form,printed: each with the proof that it is what the evaluator comes to,and that the program function returns what it says. No conditions. -/
import Derived.Test.YtnghcoghbbapgaaGreatDoorEzG3
set_option linter.unusedVariables false
set_option maxRecDepth 100000
namespace Go.Ev
open Go Go.Proofs
def Z4f : FnH := ⟨[(4,⟨(bm 35 26),[],(some 0)⟩)],[]⟩
noncomputable def Z80 : Hints := ⟨[],[],[]⟩
noncomputable def Zh6 (m n0 : Nat) (Zq : Nat) (Zv : Option Nat) (Zz : List D) (Zy : Nat) (Z11 : Option Nat) (Z13 : List D) (Z1d : Int) : Option D :=
 Z1k (bm 35 26) 0 0 (codeK Tg Z80.sp ⟨0,[],false,[]⟩ (inlK Tg Z80 m 4) m Z4f (subc [1,1,0,1,0,0] (bodyOf Tryz.f21))) n0 ⟨[(AV.d (D.list Zq Zv Zz)),(AV.d (D.list Zy Z11 Z13)),Jk,Jk,Jk,(AV.d (D.v (.int .i64 Z1d))),Jk,Jk,Jk,Jk,Jk,Jk,Jk,Jk,Jk,Jk,Jk,Jk,Jk,Jk,Jk,Jk,Jk,Jk,Jk,Jk],[]⟩
  (contK Tg Z80.sp ⟨0,[],false,[]⟩ (inlK Tg Z80 m 4) m Z4f (endK Tg Tryz.f21 endV) [.block 0,.code (subc [1,1,1] (bodyOf Tryz.f21))])
theorem Z1cu (m n0 : Nat) (Zq : Nat) (Zv : Option Nat) (Zz : List D) (Zy : Nat) (Z11 : Option Nat) (Z13 : List D) (Z1d : Int) : Zh6 m (n0 + 1) Zq Zv Zz Zy Z11 Z13 Z1d =
 (cond (decide (Z1d < (Zq : Int)))
 (if 0 ≤ Z1d ∧ Z1d < (Zq : Int) then
 if (((Int.toNat Z1d) * 17) + 17) ≤ (List.length Zz) then
 if 0 ≤ Z1d ∧ Z1d < (Zy : Int) then
 if (((Int.toNat Z1d) * 17) + 17) ≤ (List.length Z13) then
 (cellsEq [.int,.int,.int,.int,.int,.int,.int,.int,.int,.int,.int,.int,.int,.int,.int,.int,.int] ((List.drop ((Int.toNat Z1d) * 17) Zz).take 17) ((List.drop ((Int.toNat Z1d) * 17) Z13).take 17)).bind fun b3 =>
 cond (!b3)
 (some zI)
 (Zh6 m n0 Zq Zv Zz Zy Z11 Z13 (IntKind.wrap .i64 (Z1d + (1 : Int))))
 else none
 else none
 else none
 else none)
 (some (D.v (.int .i64 (1 : Int))))) := by kernel_rfl
noncomputable def Zoh (m : Nat) (a0n : Nat) (a0c : Option Nat) (a0 : List D) (a1n : Nat) (a1c : Option Nat) (a1 : List D) : Option D :=
 cond ((a0n : Int) != (a1n : Int))
 (some zI)
 (Zh6 m m a0n a0c a0 a1n a1c a1 (0 : Int))
theorem Z1f7 (m : Nat) (a0n : Nat) (a0c : Option Nat) (a0 : List D) (a1n : Nat) (a1c : Option Nat) (a1 : List D) : funD Tg Z80 m 4 Z4f Tryz.f21 [(D.list a0n a0c a0),(D.list a1n a1c a1)] = Zoh m a0n a0c a0 a1n a1c a1 := by kernel_rfl
theorem Z1ju : Enters Tg 21 := ⟨Tryz.f21,Tryz.func21,by kernel_rfl,by kernel_rfl⟩
theorem Z1jv {ds : List D} {d : D} (h : funD Tg Z80 M 4 Z4f Tryz.f21 ds = some d) : DataSem Tg 21 ds d := Z5 (H := Z80) SpOk.nil mixed InlOk.nil Tryz.func21 Z1ju h
noncomputable def Z29 : List D → Option D
 | [.list a0n a0c a0,.list a1n a1c a1] => Zoh M a0n a0c a0 a1n a1c a1
 | _ => none
theorem Z15f : ∀ ds d,Z29 ds = some d → DataSem Tg 21 ds d := by
 intro ds d h
 unfold Z29 at h
 split at h
 ·exact Z1jv ((Z1f7 M _ _ _ _ _ _).trans h)
 ·cases h
def Z5l : FnH := ⟨[(4,⟨(bm 44 89),[],(some 2)⟩)],[(3,⟨(bm 12 89),[],(some 2)⟩)]⟩
noncomputable def Zbh : Hints := ⟨[],[],[]⟩
noncomputable def Z1jw (m : Nat) (Z2z : List D) (Z4j : List D) : Option D :=
 cutK m (codeK Tg Zbh.sp ⟨0,[],false,[]⟩ (inlK Tg Zbh m 4) m Z5l (subc [1,1] (bodyOf Tryz.f85)) ⟨[Jk,Jk,(AV.ptr 0 0),(AV.ptr 1 0),Jk,Jk,Jk,Jk,Jk,Jk,Jk,Jk,Jk,Jk,Jk,Jk,Jk,Jk,Jk,Jk,Jk,Jk,Jk,Jk,Jk,Jk,Jk,Jk,Jk,Jk,Jk,Jk,Jk,Jk,Jk,Jk,Jk,Jk,Jk,Jk,Jk,Jk,Jk,Jk,Jk,Jk,Jk,Jk,Jk,Jk,Jk,Jk,Jk,Jk,Jk,Jk,Jk,Jk,Jk,Jk,Jk,Jk,Jk,Jk,Jk,Jk,Jk,Jk,Jk,Jk,Jk,Jk,Jk,Jk,Jk,Jk,Jk,Jk,Jk,Jk,Jk,Jk,Jk,Jk,Jk,Jk,Jk,Jk,Jk],[(Blk.d 27 Z2z),(Blk.d 27 Z4j)]⟩
  (contK Tg Zbh.sp ⟨0,[],false,[]⟩ (inlK Tg Zbh m 4) m Z5l (endK Tg Tryz.f85 endV) []))
noncomputable def Z1f8 (m : Nat) (a0 : List D) (a1 : List D) : Option D :=
 if (List.length a0) = 27 then
 if (List.length a1) = 27 then
 (rdI .u8 a0[0]?).bind fun x1 =>
 (rdI .u8 a1[0]?).bind fun x2 =>
 cond (x1 != x2)
 (some (D.v (.bool false)))
 ((rdS a0[1]?).bind fun s3 =>
 (rdS a1[1]?).bind fun s4 =>
 cond (!(ByteArray.toList s3 == ByteArray.toList s4))
 (some (D.v (.bool false)))
 ((rdB a0[2]?).bind fun b5 =>
 (rdB a1[2]?).bind fun b6 =>
 cond (!(b5 == b6))
 (some (D.v (.bool false)))
 ((cellsEq [.int,.str] ((List.drop 3 a0).take 2) ((List.drop 3 a1).take 2)).bind fun b7 =>
 cond (!b7)
 (some (D.v (.bool false)))
 ((rdB a0[6]?).bind fun b8 =>
 (rdB a1[6]?).bind fun b9 =>
 cond (!(b8 == b9))
 (some (D.v (.bool false)))
 ((cellsEq [.int,.str] ((List.drop 7 a0).take 2) ((List.drop 7 a1).take 2)).bind fun b10 =>
 cond (!b10)
 (some (D.v (.bool false)))
 ((cellsEq [.int,.int,.int,.int,.int,.int,.int,.int,.int,.int,.int,.int,.int,.int,.int,.int,.int] ((List.drop 9 a0).take 17) ((List.drop 9 a1).take 17)).bind fun b11 =>
 cond (!b11)
 (some (D.v (.bool false)))
 ((rdL a0[26]?).bind fun q12 =>
 if (List.length q12.cs) = q12.n then
 (bytesOf q12.cs).bind fun l13 =>
 (rdL a1[26]?).bind fun q14 =>
 if (List.length q14.cs) = q14.n then
 (bytesOf q14.cs).bind fun l15 =>
 cond (!(ByteArray.toList (ByteArray.mk (List.toArray l13)) == ByteArray.toList (ByteArray.mk (List.toArray l15))))
 (some (D.v (.bool false)))
 ((rdL a0[5]?).bind fun q16 =>
 (rdL a1[5]?).bind fun q17 =>
 cond ((q16.n : Int) != (q17.n : Int))
 (some (D.v (.bool false)))
 (Z1jw m a0 a1))
 else none
 else none)))))))
 else none
 else none
theorem Z1jx (m : Nat) (a0 : List D) (a1 : List D) : funD Tg Zbh m 4 Z5l Tryz.f85 [(D.agg a0),(D.agg a1)] = Z1f8 m a0 a1 := by kernel_rfl
theorem Z1pi : Enters Tg 85 := ⟨Tryz.f85,Tryz.func85,by kernel_rfl,by kernel_rfl⟩
theorem Z1pj {ds : List D} {d : D} (h : funD Tg Zbh M 4 Z5l Tryz.f85 ds = some d) : DataSem Tg 85 ds d := Z5 (H := Zbh) SpOk.nil mixed InlOk.nil Tryz.func85 Z1pi h
noncomputable def Z6c : List D → Option D
 | [.agg a0,.agg a1] => Z1f8 M a0 a1
 | _ => none
theorem Z1pk : ∀ ds d,Z6c ds = some d → DataSem Tg 85 ds d := by
 intro ds d h
 unfold Z6c at h
 split at h
 ·exact Z1pj ((Z1jx M _ _).trans h)
 ·cases h
def Z6d : FnH := ⟨[(4,⟨(bm 35 27),[],(some 0)⟩)],[]⟩
noncomputable def Zfs : Hints := ⟨[(85,Z6c)],[],[]⟩
noncomputable def Zro (m n0 : Nat) (Zq : Nat) (Zv : Option Nat) (Zz : List D) (Zy : Nat) (Z11 : Option Nat) (Z13 : List D) (Z1d : Int) : Option D :=
 Z1k (bm 35 27) 0 0 (codeK Tg Zfs.sp ⟨0,[],false,[]⟩ (inlK Tg Zfs m 4) m Z6d (subc [1,1,0,1,0,0] (bodyOf Tryz.f62))) n0 ⟨[(AV.d (D.list Zq Zv Zz)),(AV.d (D.list Zy Z11 Z13)),Jk,Jk,Jk,(AV.d (D.v (.int .i64 Z1d))),Jk,Jk,Jk,Jk,Jk,Jk,Jk,Jk,Jk,Jk,Jk,Jk,Jk,Jk,Jk,Jk,Jk,Jk,Jk,Jk,Jk],[]⟩
  (contK Tg Zfs.sp ⟨0,[],false,[]⟩ (inlK Tg Zfs m 4) m Z6d (endK Tg Tryz.f62 endV) [.block 0,.code (subc [1,1,1] (bodyOf Tryz.f62))])
theorem Z1jy (m n0 : Nat) (Zq : Nat) (Zv : Option Nat) (Zz : List D) (Zy : Nat) (Z11 : Option Nat) (Z13 : List D) (Z1d : Int) : Zro m (n0 + 1) Zq Zv Zz Zy Z11 Z13 Z1d =
 (cond (decide (Z1d < (Zq : Int)))
 (if 0 ≤ Z1d ∧ Z1d < (Zq : Int) then
 if (((Int.toNat Z1d) * 27) + 27) ≤ (List.length Zz) then
 if 0 ≤ Z1d ∧ Z1d < (Zy : Int) then
 if (((Int.toNat Z1d) * 27) + 27) ≤ (List.length Z13) then
 (Z6c [(D.agg ((List.drop ((Int.toNat Z1d) * 27) Zz).take 27)),(D.agg ((List.drop ((Int.toNat Z1d) * 27) Z13).take 27))]).bind fun d5 =>
 (rdB (some d5)).bind fun b6 =>
 cond (!b6)
 (some (D.v (.bool false)))
 (Zro m n0 Zq Zv Zz Zy Z11 Z13 (IntKind.wrap .i64 (Z1d + (1 : Int))))
 else none
 else none
 else none
 else none)
 (some (D.v (.bool true)))) := by kernel_rfl
noncomputable def Zzb (m : Nat) (a0n : Nat) (a0c : Option Nat) (a0 : List D) (a1n : Nat) (a1c : Option Nat) (a1 : List D) : Option D :=
 cond ((a0n : Int) != (a1n : Int))
 (some (D.v (.bool false)))
 (Zro m m a0n a0c a0 a1n a1c a1 (0 : Int))
theorem Z1n2 (m : Nat) (a0n : Nat) (a0c : Option Nat) (a0 : List D) (a1n : Nat) (a1c : Option Nat) (a1 : List D) : funD Tg Zfs m 4 Z6d Tryz.f62 [(D.list a0n a0c a0),(D.list a1n a1c a1)] = Zzb m a0n a0c a0 a1n a1c a1 := by kernel_rfl
theorem Z1sv : Enters Tg 62 := ⟨Tryz.f62,Tryz.func62,by kernel_rfl,by kernel_rfl⟩
theorem Z1sw {ds : List D} {d : D} (h : funD Tg Zfs M 4 Z6d Tryz.f62 ds = some d) : DataSem Tg 62 ds d := Z5 (H := Zfs) (SpOk.cons Z1pk SpOk.nil) mixed InlOk.nil Tryz.func62 Z1sv h
noncomputable def Zoi : List D → Option D
 | [.list a0n a0c a0,.list a1n a1c a1] => Zzb M a0n a0c a0 a1n a1c a1
 | _ => none
theorem Z1sx : ∀ ds d,Zoi ds = some d → DataSem Tg 62 ds d := by
 intro ds d h
 unfold Zoi at h
 split at h
 ·exact Z1sw ((Z1n2 M _ _ _ _ _ _).trans h)
 ·cases h
def Z3m : FnH := ⟨[(4,⟨(bm 44 80),[],(some 2)⟩)],[(5,⟨(bm 44 80),[],(some 2)⟩)]⟩
noncomputable def Z6v : Hints := ⟨[(21,Z29),(62,Zoi)],[],[]⟩
noncomputable def Zrp (m n0 : Nat) (Zq : Int) (Zv : Nat) (Zz : Option Nat) (Zy : List D) (Z11 : Nat) (Z13 : Option Nat) (Z1d : List D) : Option D :=
 Z1k (bm 44 80) 0 2 (codeK Tg Z6v.sp ⟨0,[],false,[]⟩ (inlK Tg Z6v m 4) m Z3m (subc [1,1,0,1,0,0] (bodyOf Tryz.f34))) n0 ⟨[Jk,Jk,(AV.ptr 0 0),(AV.ptr 1 0),Jk,(AV.d (D.v (.int .i64 Zq))),Jk,Jk,Jk,Jk,Jk,Jk,Jk,Jk,Jk,Jk,Jk,Jk,Jk,Jk,Jk,Jk,Jk,Jk,Jk,Jk,Jk,Jk,Jk,Jk,Jk,Jk,Jk,Jk,Jk,Jk,Jk,Jk,Jk,Jk,Jk,Jk,Jk,Jk,Jk,Jk,Jk,Jk,Jk,Jk,Jk,Jk,Jk,Jk,Jk,Jk,Jk,Jk,Jk,Jk,Jk,Jk,Jk,Jk,Jk,Jk,Jk,Jk,Jk,Jk,Jk,Jk,Jk,Jk,Jk,Jk,Jk,Jk,Jk,Jk],[(Blk.d 1 [(D.list Zv Zz Zy)]),(Blk.d 1 [(D.list Z11 Z13 Z1d)])]⟩
  (contK Tg Z6v.sp ⟨0,[],false,[]⟩ (inlK Tg Z6v m 4) m Z3m (endK Tg Tryz.f34 endV) [.block 0,.code (subc [1,1,1] (bodyOf Tryz.f34))])
noncomputable def Z18f (m n0 : Nat) (Z2z : Int) (Z4j : Nat) (Z3v : Option Nat) (Z3t : List D) (Z6p : Nat) (Za0 : Option Nat) (Z91 : List D) : Option D :=
 cutK m (codeK Tg Z6v.sp ⟨0,[],false,[]⟩ (inlK Tg Z6v m 4) m Z3m (subc [1,1,0,1,0,0,1,1] (bodyOf Tryz.f34)) ⟨[Jk,Jk,(AV.ptr 0 0),(AV.ptr 1 0),Jk,(AV.d (D.v (.int .i64 Z2z))),Jk,Jk,Jk,Jk,Jk,Jk,Jk,Jk,Jk,Jk,Jk,Jk,Jk,Jk,Jk,Jk,Jk,Jk,Jk,Jk,Jk,Jk,Jk,Jk,Jk,Jk,Jk,Jk,Jk,Jk,Jk,Jk,Jk,Jk,Jk,Jk,Jk,Jk,Jk,Jk,Jk,Jk,Jk,Jk,Jk,Jk,Jk,Jk,Jk,Jk,Jk,Jk,Jk,Jk,Jk,Jk,Jk,Jk,Jk,Jk,Jk,Jk,Jk,Jk,Jk,Jk,Jk,Jk,Jk,Jk,Jk,Jk,Jk,Jk],[(Blk.d 1 [(D.list Z4j Z3v Z3t)]),(Blk.d 1 [(D.list Z6p Za0 Z91)])]⟩
  (contK Tg Z6v.sp ⟨0,[],false,[]⟩ (inlK Tg Z6v m 4) m Z3m (endK Tg Tryz.f34 endV) [.loop (bm 44 80) 2 (subc [1,1,0,1,0,0] (bodyOf Tryz.f34)) n0,.block 0,.code (subc [1,1,1] (bodyOf Tryz.f34))]))
theorem Z1he (m n0 : Nat) (Z2z : Int) (Z4j : Nat) (Z3v : Option Nat) (Z3t : List D) (Z6p : Nat) (Za0 : Option Nat) (Z91 : List D) : Z18f m n0 Z2z Z4j Z3v Z3t Z6p Za0 Z91 =
 (Zrp m n0 (IntKind.wrap .i64 (Z2z + (1 : Int))) Z4j Z3v Z3t Z6p Za0 Z91) := (Z1w m _).trans (by kernel_rfl)
theorem Z1jz (m n0 : Nat) (Zq : Int) (Zv : Nat) (Zz : Option Nat) (Zy : List D) (Z11 : Nat) (Z13 : Option Nat) (Z1d : List D) : Zrp m (n0 + 1) Zq Zv Zz Zy Z11 Z13 Z1d =
 (cond (decide (Zq < (Zv : Int)))
 (if 0 ≤ Zq ∧ Zq < (Zv : Int) then
 (rdI .i64 Zy[(((Int.toNat Zq) * 20) + 0)]?).bind fun x23 =>
 if 0 ≤ Zq ∧ Zq < (Z11 : Int) then
 (rdI .i64 Z1d[(((Int.toNat Zq) * 20) + 0)]?).bind fun x24 =>
 cond (x23 != x24)
 (some zI)
 (if 0 ≤ Zq ∧ Zq < (Zv : Int) then
 if ((((Int.toNat Zq) * 20) + 1) + 17) ≤ (List.length Zy) then
 if 0 ≤ Zq ∧ Zq < (Z11 : Int) then
 if ((((Int.toNat Zq) * 20) + 1) + 17) ≤ (List.length Z1d) then
 (cellsEq [.int,.int,.int,.int,.int,.int,.int,.int,.int,.int,.int,.int,.int,.int,.int,.int,.int] ((List.drop (((Int.toNat Zq) * 20) + 1) Zy).take 17) ((List.drop (((Int.toNat Zq) * 20) + 1) Z1d).take 17)).bind fun b25 =>
 cond (!b25)
 (some zI)
 (if 0 ≤ Zq ∧ Zq < (Zv : Int) then
 (rdL Zy[(((Int.toNat Zq) * 20) + 18)]?).bind fun q26 =>
 if 0 ≤ Zq ∧ Zq < (Z11 : Int) then
 (rdL Z1d[(((Int.toNat Zq) * 20) + 18)]?).bind fun q27 =>
 (Z29 [(D.list q26.n q26.cap q26.cs),(D.list q27.n q27.cap q27.cs)]).bind fun d28 =>
 (rdI .i64 (some d28)).bind fun x29 =>
 cond (x29 == (0 : Int))
 (some zI)
 (if 0 ≤ Zq ∧ Zq < (Zv : Int) then
 (rdL Zy[(((Int.toNat Zq) * 20) + 19)]?).bind fun q30 =>
 if 0 ≤ Zq ∧ Zq < (Z11 : Int) then
 (rdL Z1d[(((Int.toNat Zq) * 20) + 19)]?).bind fun q31 =>
 (Zoi [(D.list q30.n q30.cap q30.cs),(D.list q31.n q31.cap q31.cs)]).bind fun d32 =>
 (rdB (some d32)).bind fun b33 =>
 cond (!b33)
 (some zI)
 (Z18f m n0 Zq Zv Zz Zy Z11 Z13 Z1d)
 else none
 else none)
 else none
 else none)
 else none
 else none
 else none
 else none)
 else none
 else none)
 (some (D.v (.int .i64 (1 : Int))))) := by kernel_rfl
noncomputable def Zzc (m : Nat) (a0_0n : Nat) (a0_0c : Option Nat) (a0_0 : List D) (a1_0n : Nat) (a1_0c : Option Nat) (a1_0 : List D) : Option D :=
 cond ((a0_0n : Int) != (a1_0n : Int))
 (some zI)
 (Zrp m m (0 : Int) a0_0n a0_0c a0_0 a1_0n a1_0c a1_0)
theorem Z1n3 (m : Nat) (a0_0n : Nat) (a0_0c : Option Nat) (a0_0 : List D) (a1_0n : Nat) (a1_0c : Option Nat) (a1_0 : List D) : funD Tg Z6v m 4 Z3m Tryz.f34 [(D.agg [(D.list a0_0n a0_0c a0_0)]),(D.agg [(D.list a1_0n a1_0c a1_0)])] = Zzc m a0_0n a0_0c a0_0 a1_0n a1_0c a1_0 := by kernel_rfl
theorem Z1sy : Enters Tg 34 := ⟨Tryz.f34,Tryz.func34,by kernel_rfl,by kernel_rfl⟩
theorem Z1sz {ds : List D} {d : D} (h : funD Tg Z6v M 4 Z3m Tryz.f34 ds = some d) : DataSem Tg 34 ds d := Z5 (H := Z6v) (SpOk.cons Z15f (SpOk.cons Z1sx SpOk.nil)) mixed InlOk.nil Tryz.func34 Z1sy h
noncomputable def Z52 : List D → Option D
 | [.agg [.list a0_0n a0_0c a0_0],.agg [.list a1_0n a1_0c a1_0]] => Zzc M a0_0n a0_0c a0_0 a1_0n a1_0c a1_0
 | _ => none
theorem Z1f9 : ∀ ds d,Z52 ds = some d → DataSem Tg 34 ds d := by
 intro ds d h
 unfold Z52 at h
 split at h
 ·exact Z1sz ((Z1n3 M _ _ _ _ _ _).trans h)
 ·cases h
end Go.Ev