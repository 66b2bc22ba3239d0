/- Functions of the given program in plain form, printed: each with the proof that it is what the evaluator comes to, and that the program function returns what it says. No conditions. -/
import Derived.Test.YtnghcoghbbapgaaGreatDoorEzG5
set_option linter.unusedVariables false
set_option maxRecDepth 100000
namespace Go.Ev
open Go Go.Proofs
theorem Z5q : Enters Tryz.prog 63 := ⟨Tryz.f63, Tryz.func63, by kernel_rfl, by kernel_rfl⟩
theorem Z1nl : Enters Tryz.prog 64 := ⟨Tryz.f64, Tryz.func64, by kernel_rfl, by kernel_rfl⟩
theorem Z45 : Enters Tryz.prog 86 := ⟨Tryz.f86, Tryz.func86, by kernel_rfl, by kernel_rfl⟩
theorem Z1al : Enters Tryz.prog 87 := ⟨Tryz.f87, Tryz.func87, by kernel_rfl, by kernel_rfl⟩
def Z17 : FnH := ⟨[(4, ⟨[true, true, false, false, false, false, false, false, false, false, false, false, true, true, false, false, false, false, false, false, false, false, false, false, false, false], [], (some 0)⟩)], []⟩
noncomputable def Z22 : Hints := ⟨[], [], []⟩
noncomputable def Z41 (m n0 : Nat) (Zq : Nat) (Zv : Option Nat) (Zz : List D) (Zy : Nat) (Z11 : Option Nat) (Z13 : List D) (Z1d : Int) (Z1q : Int) : Option D :=
 Z1k [true, true, false, false, false, false, false, false, false, false, false, false, true, true, false, false, false, false, false, false, false, false, false, false, false, false] 0 0 (codeK Tryz.prog Z22.sp ⟨0, [], false, []⟩ (inlK Tryz.prog Z22 m 4) m Z17 (subc [1, 1, 0, 1, 0, 0] (bodyOf Tryz.f65))) n0 ⟨[(AV.d (D.list Zq Zv Zz)), (AV.d (D.list Zy Z11 Z13)), .junk, .junk, .junk, .junk, .junk, .junk, .junk, .junk, .junk, .junk, (AV.d (D.v (.int .i64 Z1d))), (AV.d (D.v (.int .i64 Z1q))), .junk, .junk, .junk, .junk, .junk, .junk, .junk, .junk, .junk, .junk, .junk, .junk], []⟩
  (contK Tryz.prog Z22.sp ⟨0, [], false, []⟩ (inlK Tryz.prog Z22 m 4) m Z17 (endK Tryz.prog Tryz.f65 endV) [.block 0, .code (subc [1, 1, 1] (bodyOf Tryz.f65))])
theorem Zmf (m n0 : Nat) (Zq : Nat) (Zv : Option Nat) (Zz : List D) (Zy : Nat) (Z11 : Option Nat) (Z13 : List D) (Z1d : Int) (Z1q : Int) : Z41 m (n0 + 1) Zq Zv Zz Zy Z11 Z13 Z1d Z1q =
 (cond (decide (Z1q < Z1d))
 (if 0 ≤ Z1q ∧ Z1q < ((Zq : Nat) : Int) then
 if (((Int.toNat Z1q) * 17) + 17) ≤ (List.length Zz) then
 if 0 ≤ Z1q ∧ Z1q < ((Zy : Nat) : Int) then
 if (((Int.toNat Z1q) * 17) + 17) ≤ (List.length Z13) then
 (cellsEq [.int, .int, .int, .int, .int, .int, .int, .int, .int, .int, .int, .int, .int, .int, .int, .int, .int] ((List.drop ((Int.toNat Z1q) * 17) Zz).take 17) ((List.drop ((Int.toNat Z1q) * 17) Z13).take 17)).bind fun b3 =>
 cond (!b3)
 (some (D.v (.bool false)))
 (Z41 m n0 Zq Zv Zz Zy Z11 Z13 Z1d (IntKind.wrap .i64 (Z1q + (1 : Int))))
 else none
 else none
 else none
 else none)
 (some (D.v (.bool true)))) := by kernel_rfl
noncomputable def Z4p (m : Nat) (a0n : Nat) (a0c : Option Nat) (a0 : List D) (a1n : Nat) (a1c : Option Nat) (a1 : List D) : Option D :=
 cond (((a0n : Nat) : Int) != ((a1n : Nat) : Int))
 (some (D.v (.bool false)))
 (Z41 m m a0n a0c a0 a1n a1c a1 ((a0n : Nat) : Int) (0 : Int))
theorem Zok (m : Nat) (a0n : Nat) (a0c : Option Nat) (a0 : List D) (a1n : Nat) (a1c : Option Nat) (a1 : List D) : funD Tryz.prog Z22 m 4 Z17 Tryz.f65 [(D.list a0n a0c a0), (D.list a1n a1c a1)] = Z4p m a0n a0c a0 a1n a1c a1 := by kernel_rfl
theorem Zqr : Enters Tryz.prog 65 := ⟨Tryz.f65, Tryz.func65, by kernel_rfl, by kernel_rfl⟩
theorem Zqs {ds : List D} {d : D} (h : funD Tryz.prog Z22 M 4 Z17 Tryz.f65 ds = some d) : DataSem Tryz.prog 65 ds d := Z5 (H := Z22) SpOk.nil mixed InlOk.nil Tryz.func65 Zqr h
noncomputable def Z37 : List D → Option D
 | [.list a0n a0c a0, .list a1n a1c a1] => Z4p M a0n a0c a0 a1n a1c a1
 | _ => none
theorem Zqt : ∀ ds d, Z37 ds = some d → DataSem Tryz.prog 65 ds d := by
 intro ds d h
 unfold Z37 at h
 split at h
 ·exact Zqs ((Zok M _ _ _ _ _ _).trans h)
 ·cases h
def Z1f : FnH := ⟨[(4, ⟨[true, true, false, false, false, false, false, false, false, false, false, false, true, true, false, false, false, false, false, false, false, false, false, false, false, false], [], (some 0)⟩)], []⟩
noncomputable def Z2c : Hints := ⟨[], [], []⟩
noncomputable def Zt0 (m n0 : Nat) (Zq : Nat) (Zv : Option Nat) (Zz : List D) (Zy : Nat) (Z11 : Option Nat) (Z13 : List D) (Z1d : Int) (Z1q : Int) : Option D :=
 Z1k [true, true, false, false, false, false, false, false, false, false, false, false, true, true, false, false, false, false, false, false, false, false, false, false, false, false] 0 0 (codeK Tryz.prog Z2c.sp ⟨0, [], false, []⟩ (inlK Tryz.prog Z2c m 4) m Z1f (subc [1, 1, 0, 1, 0, 0] (bodyOf Tryz.f88))) n0 ⟨[(AV.d (D.list Zq Zv Zz)), (AV.d (D.list Zy Z11 Z13)), .junk, .junk, .junk, .junk, .junk, .junk, .junk, .junk, .junk, .junk, (AV.d (D.v (.int .i64 Z1d))), (AV.d (D.v (.int .i64 Z1q))), .junk, .junk, .junk, .junk, .junk, .junk, .junk, .junk, .junk, .junk, .junk, .junk], []⟩
  (contK Tryz.prog Z2c.sp ⟨0, [], false, []⟩ (inlK Tryz.prog Z2c m 4) m Z1f (endK Tryz.prog Tryz.f88 endV) [.block 0, .code (subc [1, 1, 1] (bodyOf Tryz.f88))])
noncomputable def Zdc (m : Nat) (a0n : Nat) (a0c : Option Nat) (a0 : List D) (a1n : Nat) (a1c : Option Nat) (a1 : List D) : Option D :=
 cond (((a0n : Nat) : Int) != ((a1n : Nat) : Int))
 (some (D.v (.bool false)))
 (Zt0 m m a0n a0c a0 a1n a1c a1 ((a0n : Nat) : Int) (0 : Int))
theorem Zqu (m : Nat) (a0n : Nat) (a0c : Option Nat) (a0 : List D) (a1n : Nat) (a1c : Option Nat) (a1 : List D) : funD Tryz.prog Z2c m 4 Z1f Tryz.f88 [(D.list a0n a0c a0), (D.list a1n a1c a1)] = Zdc m a0n a0c a0 a1n a1c a1 := by kernel_rfl
theorem Ztz : Enters Tryz.prog 88 := ⟨Tryz.f88, Tryz.func88, by kernel_rfl, by kernel_rfl⟩
theorem Zu0 {ds : List D} {d : D} (h : funD Tryz.prog Z2c M 4 Z1f Tryz.f88 ds = some d) : DataSem Tryz.prog 88 ds d := Z5 (H := Z2c) SpOk.nil mixed InlOk.nil Tryz.func88 Ztz h
noncomputable def Z3h : List D → Option D
 | [.list a0n a0c a0, .list a1n a1c a1] => Zdc M a0n a0c a0 a1n a1c a1
 | _ => none
theorem Zu1 : ∀ ds d, Z3h ds = some d → DataSem Tryz.prog 88 ds d := by
 intro ds d h
 unfold Z3h at h
 split at h
 ·exact Zu0 ((Zqu M _ _ _ _ _ _).trans h)
 ·cases h
def Zfz : FnH := ⟨[], []⟩
noncomputable def Z14a : Hints := ⟨[], [], []⟩
noncomputable def Z1fk (m : Nat) (a0n : Nat) (a0c : Option Nat) (a0 : List D) (a1n : Nat) (a1c : Option Nat) (a1 : List D) : Option D :=
 if (List.length a0) = a0n then
 (bytesOf a0).bind fun l1 =>
 if (List.length a1) = a1n then
 (bytesOf a1).bind fun l2 =>
 some (D.v (.bool (ByteArray.toList (ByteArray.mk (List.toArray l1)) == ByteArray.toList (ByteArray.mk (List.toArray l2)))))
 else none
 else none
theorem Z1k5 (m : Nat) (a0n : Nat) (a0c : Option Nat) (a0 : List D) (a1n : Nat) (a1c : Option Nat) (a1 : List D) : funD Tryz.prog Z14a m 4 Zfz Tryz.f89 [(D.list a0n a0c a0), (D.list a1n a1c a1)] = Z1fk m a0n a0c a0 a1n a1c a1 := by kernel_rfl
theorem Z1pt : Enters Tryz.prog 89 := ⟨Tryz.f89, Tryz.func89, by kernel_rfl, by kernel_rfl⟩
theorem Z1pu {ds : List D} {d : D} (h : funD Tryz.prog Z14a M 4 Zfz Tryz.f89 ds = some d) : DataSem Tryz.prog 89 ds d := Z5 (H := Z14a) SpOk.nil mixed InlOk.nil Tryz.func89 Z1pt h
noncomputable def Zja : List D → Option D
 | [.list a0n a0c a0, .list a1n a1c a1] => Z1fk M a0n a0c a0 a1n a1c a1
 | _ => none
theorem Z1pv : ∀ ds d, Zja ds = some d → DataSem Tryz.prog 89 ds d := by
 intro ds d h
 unfold Zja at h
 split at h
 ·exact Z1pu ((Z1k5 M _ _ _ _ _ _).trans h)
 ·cases h
def Z54 : FnH := ⟨[], []⟩
def Zt : FnH := ⟨[(4, ⟨[false, true, true, false, false, false, false, false, false, false, false, false, false, false, false, true, true, true, false, false, false, false, false, false, false, false, false, false, false, false, false, false], [], (some 0)⟩)], []⟩
def Zie : FnH := ⟨[], []⟩
noncomputable def Z38 : Hints := ⟨[(88, Z3h), (89, Zja)], [(86, Tryz.f86, Zt), (87, Tryz.f87, Zie)], []⟩
noncomputable def Zk (m n0 : Nat) (a0n : Nat) (a0c : Option Nat) (a0 : List D) (a1n : Nat) (a1c : Option Nat) (a1 : List D) (Zq : Nat) (Zv : Option Nat) (Zz : List D) (Zy : Nat) (Z11 : Option Nat) (Z13 : List D) (Z1d : Int) (Z1q : Int) : Option D :=
 Z1k [false, true, true, false, false, false, false, false, false, false, false, false, false, false, false, true, true, true, false, false, false, false, false, false, false, false, false, false, false, false, false, false] 0 0 (codeK Tryz.prog Z38.sp ⟨0, [], true, []⟩ (inlK Tryz.prog Z38 m 3) m Zt (subc [1, 1, 0, 1, 0, 0] (bodyOf Tryz.f86))) n0 ⟨[.junk, (AV.d (D.list Zq Zv Zz)), (AV.d (D.fn 87 [])), .junk, .junk, .junk, .junk, .junk, .junk, .junk, .junk, .junk, .junk, .junk, .junk, (AV.d (D.list Zy Z11 Z13)), (AV.d (D.v (.int .i64 Z1d))), (AV.d (D.v (.int .i64 Z1q))), .junk, .junk, .junk, .junk, .junk, .junk, .junk, .junk, .junk, .junk, .junk, .junk, .junk, .junk], []⟩
  (contK Tryz.prog Z38.sp ⟨0, [], true, []⟩ (inlK Tryz.prog Z38 m 3) m Zt (endK Tryz.prog Tryz.f86 (fun v L => opsK Tryz.prog Z38.sp ⟨0, [], false, []⟩ [] (inlK Tryz.prog Z38 m 4) (regOps (subc [1, 0] (bodyOf Tryz.f66))) (List.drop 3 (Array.toList (regOps (subc [1, 0] (bodyOf Tryz.f66))))) ⟨setSl [(AV.d (D.list a0n a0c a0)), (AV.d (D.list a1n a1c a1)), .junk, .junk, (AV.d (D.v (.bool false))), (AV.d (D.list a0n a0c a0)), (AV.d (D.list a1n a1c a1)), .junk] (some 7) v, L⟩ (fun st => contK Tryz.prog Z38.sp ⟨0, [], false, []⟩ (inlK Tryz.prog Z38 m 4) m Z54 (endK Tryz.prog Tryz.f66 endV) [.code (subc [1, 1] (bodyOf Tryz.f66))] .normal st))) [.block 0, .code (subc [1, 1, 1] (bodyOf Tryz.f86))])
theorem Z2q (m n0 : Nat) (a0n : Nat) (a0c : Option Nat) (a0 : List D) (a1n : Nat) (a1c : Option Nat) (a1 : List D) (Zq : Nat) (Zv : Option Nat) (Zz : List D) (Zy : Nat) (Z11 : Option Nat) (Z13 : List D) (Z1d : Int) (Z1q : Int) : Zk m (n0 + 1) a0n a0c a0 a1n a1c a1 Zq Zv Zz Zy Z11 Z13 Z1d Z1q =
 (cond (decide (Z1q < Z1d))
 (if 0 ≤ Z1q ∧ Z1q < ((Zy : Nat) : Int) then
 if (((Int.toNat Z1q) * 27) + 27) ≤ (List.length Z13) then
 if (List.length ((List.drop ((Int.toNat Z1q) * 27) Z13).take 27)) = 27 then
 if 0 ≤ Z1q ∧ Z1q < ((Zq : Nat) : Int) then
 if (((Int.toNat Z1q) * 27) + 27) ≤ (List.length Zz) then
 if (List.length ((List.drop ((Int.toNat Z1q) * 27) Zz).take 27)) = 27 then
 if (List.length ((List.drop ((Int.toNat Z1q) * 27) Z13).take 27)) = 27 then
 if (List.length ((List.drop ((Int.toNat Z1q) * 27) Zz).take 27)) = 27 then
 (rdI .u8 ((List.drop ((Int.toNat Z1q) * 27) Z13).take 27)[0]?).bind fun x39 =>
 (rdI .u8 ((List.drop ((Int.toNat Z1q) * 27) Zz).take 27)[0]?).bind fun x40 =>
 cond (x39 == x40)
 ((rdS ((List.drop ((Int.toNat Z1q) * 27) Z13).take 27)[1]?).bind fun s41 =>
 (rdS ((List.drop ((Int.toNat Z1q) * 27) Zz).take 27)[1]?).bind fun s42 =>
 cond (ByteArray.toList s41 == ByteArray.toList s42)
 ((rdB ((List.drop ((Int.toNat Z1q) * 27) Z13).take 27)[2]?).bind fun b43 =>
 (rdB ((List.drop ((Int.toNat Z1q) * 27) Zz).take 27)[2]?).bind fun b44 =>
 cond (b43 == b44)
 ((cellsEq [.int, .str] ((List.drop 3 ((List.drop ((Int.toNat Z1q) * 27) Z13).take 27)).take 2) ((List.drop 3 ((List.drop ((Int.toNat Z1q) * 27) Zz).take 27)).take 2)).bind fun b45 =>
 cond b45
 ((rdL ((List.drop ((Int.toNat Z1q) * 27) Z13).take 27)[5]?).bind fun q46 =>
 (rdL ((List.drop ((Int.toNat Z1q) * 27) Zz).take 27)[5]?).bind fun q47 =>
 (Z3h [(D.list q46.n q46.cap q46.cs), (D.list q47.n q47.cap q47.cs)]).bind fun d48 =>
 (rdB (some d48)).bind fun b49 =>
 cond b49
 ((rdB ((List.drop ((Int.toNat Z1q) * 27) Z13).take 27)[6]?).bind fun b50 =>
 (rdB ((List.drop ((Int.toNat Z1q) * 27) Zz).take 27)[6]?).bind fun b51 =>
 cond (b50 == b51)
 ((cellsEq [.int, .str] ((List.drop 7 ((List.drop ((Int.toNat Z1q) * 27) Z13).take 27)).take 2) ((List.drop 7 ((List.drop ((Int.toNat Z1q) * 27) Zz).take 27)).take 2)).bind fun b52 =>
 cond b52
 ((cellsEq [.int, .int, .int, .int, .int, .int, .int, .int, .int, .int, .int, .int, .int, .int, .int, .int, .int] ((List.drop 9 ((List.drop ((Int.toNat Z1q) * 27) Z13).take 27)).take 17) ((List.drop 9 ((List.drop ((Int.toNat Z1q) * 27) Zz).take 27)).take 17)).bind fun b53 =>
 cond b53
 ((rdL ((List.drop ((Int.toNat Z1q) * 27) Z13).take 27)[26]?).bind fun q54 =>
 (rdL ((List.drop ((Int.toNat Z1q) * 27) Zz).take 27)[26]?).bind fun q55 =>
 (Zja [(D.list q54.n q54.cap q54.cs), (D.list q55.n q55.cap q55.cs)]).bind fun d56 =>
 (rdB (some d56)).bind fun b57 =>
 cond (!b57)
 (some (D.v (.bool false)))
 (Zk m n0 a0n a0c a0 a1n a1c a1 Zq Zv Zz Zy Z11 Z13 Z1d (IntKind.wrap .i64 (Z1q + (1 : Int)))))
 (some (D.v (.bool false))))
 (some (D.v (.bool false))))
 (some (D.v (.bool false))))
 (some (D.v (.bool false))))
 (some (D.v (.bool false))))
 (some (D.v (.bool false))))
 (some (D.v (.bool false))))
 (some (D.v (.bool false)))
 else none
 else none
 else none
 else none
 else none
 else none
 else none
 else none)
 (some (D.v (.bool true)))) := by kernel_rfl
noncomputable def Zh9 (m : Nat) (a0n : Nat) (a0c : Option Nat) (a0 : List D) (a1n : Nat) (a1c : Option Nat) (a1 : List D) : Option D :=
 cond (((a0n : Nat) : Int) != ((a1n : Nat) : Int))
 (some (D.v (.bool false)))
 (Zk m m a0n a0c a0 a1n a1c a1 a1n a1c a1 a0n a0c a0 ((a0n : Nat) : Int) (0 : Int))
theorem Z1am (m : Nat) (a0n : Nat) (a0c : Option Nat) (a0 : List D) (a1n : Nat) (a1c : Option Nat) (a1 : List D) : funD Tryz.prog Z38 m 4 Z54 Tryz.f66 [(D.list a0n a0c a0), (D.list a1n a1c a1)] = Zh9 m a0n a0c a0 a1n a1c a1 := by kernel_rfl
theorem Z1fl : Enters Tryz.prog 66 := ⟨Tryz.f66, Tryz.func66, by kernel_rfl, by kernel_rfl⟩
theorem Z1fm {ds : List D} {d : D} (h : funD Tryz.prog Z38 M 4 Z54 Tryz.f66 ds = some d) : DataSem Tryz.prog 66 ds d := Z5 (H := Z38) (SpOk.cons Zu1 (SpOk.cons Z1pv SpOk.nil)) mixed (InlOk.cons Tryz.func86 Z45 (InlOk.cons Tryz.func87 Z1al InlOk.nil)) Tryz.func66 Z1fl h
noncomputable def Z8w : List D → Option D
 | [.list a0n a0c a0, .list a1n a1c a1] => Zh9 M a0n a0c a0 a1n a1c a1
 | _ => none
theorem Z1fn : ∀ ds d, Z8w ds = some d → DataSem Tryz.prog 66 ds d := by
 intro ds d h
 unfold Z8w at h
 split at h
 ·exact Z1fm ((Z1am M _ _ _ _ _ _).trans h)
 ·cases h
def Z97 : FnH := ⟨[], []⟩
def Z18 : FnH := ⟨[(4, ⟨[false, true, true, false, false, false, false, false, false, false, false, false, false, false, false, true, true, true, false, false, false, false, false, false, false, false, false, false, false, false, false, false], [], (some 0)⟩)], []⟩
def Zxe : FnH := ⟨[], []⟩
noncomputable def Z6x : Hints := ⟨[(65, Z37), (66, Z8w)], [(63, Tryz.f63, Z18), (64, Tryz.f64, Zxe)], []⟩
noncomputable def Zr (m n0 : Nat) (a0_0n : Nat) (a0_0c : Option Nat) (a0_0 : List D) (a1_0n : Nat) (a1_0c : Option Nat) (a1_0 : List D) (Zq : Nat) (Zv : Option Nat) (Zz : List D) (Zy : Nat) (Z11 : Option Nat) (Z13 : List D) (Z1d : Int) (Z1q : Int) : Option D :=
 Z1k [false, true, true, false, false, false, false, false, false, false, false, false, false, false, false, true, true, true, false, false, false, false, false, false, false, false, false, false, false, false, false, false] 2 2 (codeK Tryz.prog Z6x.sp ⟨2, [], true, []⟩ (inlK Tryz.prog Z6x m 3) m Z18 (subc [1, 1, 0, 1, 0, 0] (bodyOf Tryz.f63))) n0 ⟨[.junk, (AV.d (D.list Zq Zv Zz)), (AV.d (D.fn 64 [])), .junk, .junk, .junk, .junk, .junk, .junk, .junk, .junk, .junk, .junk, .junk, .junk, (AV.d (D.list Zy Z11 Z13)), (AV.d (D.v (.int .i64 Z1d))), (AV.d (D.v (.int .i64 Z1q))), .junk, .junk, .junk, .junk, .junk, .junk, .junk, .junk, .junk, .junk, .junk, .junk, .junk, .junk], [(Blk.d 1 [(D.list Zy Z11 Z13)]), (Blk.d 1 [(D.list Zq Zv Zz)])]⟩
  (contK Tryz.prog Z6x.sp ⟨2, [], true, []⟩ (inlK Tryz.prog Z6x m 3) m Z18 (endK Tryz.prog Tryz.f63 (fun v L => opsK Tryz.prog Z6x.sp ⟨0, [], false, []⟩ [] (inlK Tryz.prog Z6x m 4) (regOps (subc [1, 0] (bodyOf Tryz.f35))) (List.drop 5 (Array.toList (regOps (subc [1, 0] (bodyOf Tryz.f35))))) ⟨setSl [(AV.d (D.agg [(D.list a0_0n a0_0c a0_0)])), (AV.d (D.agg [(D.list a1_0n a1_0c a1_0)])), (AV.ptr 0 0), (AV.ptr 1 0), (AV.d (D.v (.bool false))), (AV.ptr 0 0), (AV.d (D.list a0_0n a0_0c a0_0)), (AV.ptr 1 0), (AV.d (D.list a1_0n a1_0c a1_0)), .junk] (some 9) v, L⟩ (fun st => contK Tryz.prog Z6x.sp ⟨0, [], false, []⟩ (inlK Tryz.prog Z6x m 4) m Z97 (endK Tryz.prog Tryz.f35 endV) [.code (subc [1, 1] (bodyOf Tryz.f35))] .normal st))) [.block 0, .code (subc [1, 1, 1] (bodyOf Tryz.f63))])
theorem Z3w (m n0 : Nat) (a0_0n : Nat) (a0_0c : Option Nat) (a0_0 : List D) (a1_0n : Nat) (a1_0c : Option Nat) (a1_0 : List D) (Zq : Nat) (Zv : Option Nat) (Zz : List D) (Zy : Nat) (Z11 : Option Nat) (Z13 : List D) (Z1d : Int) (Z1q : Int) : Zr m (n0 + 1) a0_0n a0_0c a0_0 a1_0n a1_0c a1_0 Zq Zv Zz Zy Z11 Z13 Z1d Z1q =
 (cond (decide (Z1q < Z1d))
 (if 0 ≤ Z1q ∧ Z1q < ((Zy : Nat) : Int) then
 if (((Int.toNat Z1q) * 20) + 20) ≤ (List.length Z13) then
 if (List.length ((List.drop ((Int.toNat Z1q) * 20) Z13).take 20)) = 20 then
 if 0 ≤ Z1q ∧ Z1q < ((Zq : Nat) : Int) then
 if (((Int.toNat Z1q) * 20) + 20) ≤ (List.length Zz) then
 if (List.length ((List.drop ((Int.toNat Z1q) * 20) Zz).take 20)) = 20 then
 if (List.length ((List.drop ((Int.toNat Z1q) * 20) Z13).take 20)) = 20 then
 if (List.length ((List.drop ((Int.toNat Z1q) * 20) Zz).take 20)) = 20 then
 (rdI .i64 ((List.drop ((Int.toNat Z1q) * 20) Z13).take 20)[0]?).bind fun x23 =>
 (rdI .i64 ((List.drop ((Int.toNat Z1q) * 20) Zz).take 20)[0]?).bind fun x24 =>
 cond (x23 == x24)
 ((cellsEq [.int, .int, .int, .int, .int, .int, .int, .int, .int, .int, .int, .int, .int, .int, .int, .int, .int] ((List.drop 1 ((List.drop ((Int.toNat Z1q) * 20) Z13).take 20)).take 17) ((List.drop 1 ((List.drop ((Int.toNat Z1q) * 20) Zz).take 20)).take 17)).bind fun b25 =>
 cond b25
 ((rdL ((List.drop ((Int.toNat Z1q) * 20) Z13).take 20)[18]?).bind fun q26 =>
 (rdL ((List.drop ((Int.toNat Z1q) * 20) Zz).take 20)[18]?).bind fun q27 =>
 (Z37 [(D.list q26.n q26.cap q26.cs), (D.list q27.n q27.cap q27.cs)]).bind fun d28 =>
 (rdB (some d28)).bind fun b29 =>
 cond b29
 ((rdL ((List.drop ((Int.toNat Z1q) * 20) Z13).take 20)[19]?).bind fun q30 =>
 (rdL ((List.drop ((Int.toNat Z1q) * 20) Zz).take 20)[19]?).bind fun q31 =>
 (Z8w [(D.list q30.n q30.cap q30.cs), (D.list q31.n q31.cap q31.cs)]).bind fun d32 =>
 (rdB (some d32)).bind fun b33 =>
 cond (!b33)
 (some (D.v (.bool false)))
 (Zr m n0 a0_0n a0_0c a0_0 a1_0n a1_0c a1_0 Zq Zv Zz Zy Z11 Z13 Z1d (IntKind.wrap .i64 (Z1q + (1 : Int)))))
 (some (D.v (.bool false))))
 (some (D.v (.bool false))))
 (some (D.v (.bool false)))
 else none
 else none
 else none
 else none
 else none
 else none
 else none
 else none)
 (some (D.v (.bool true)))) := by kernel_rfl
noncomputable def Zzj (m : Nat) (a0_0n : Nat) (a0_0c : Option Nat) (a0_0 : List D) (a1_0n : Nat) (a1_0c : Option Nat) (a1_0 : List D) : Option D :=
 cond (((a0_0n : Nat) : Int) != ((a1_0n : Nat) : Int))
 (some (D.v (.bool false)))
 (Zr m m a0_0n a0_0c a0_0 a1_0n a1_0c a1_0 a1_0n a1_0c a1_0 a0_0n a0_0c a0_0 ((a0_0n : Nat) : Int) (0 : Int))
theorem Z1nm (m : Nat) (a0_0n : Nat) (a0_0c : Option Nat) (a0_0 : List D) (a1_0n : Nat) (a1_0c : Option Nat) (a1_0 : List D) : funD Tryz.prog Z6x m 4 Z97 Tryz.f35 [(D.agg [(D.list a0_0n a0_0c a0_0)]), (D.agg [(D.list a1_0n a1_0c a1_0)])] = Zzj m a0_0n a0_0c a0_0 a1_0n a1_0c a1_0 := by kernel_rfl
theorem Z1tk : Enters Tryz.prog 35 := ⟨Tryz.f35, Tryz.func35, by kernel_rfl, by kernel_rfl⟩
theorem Z1tl {ds : List D} {d : D} (h : funD Tryz.prog Z6x M 4 Z97 Tryz.f35 ds = some d) : DataSem Tryz.prog 35 ds d := Z5 (H := Z6x) (SpOk.cons Zqt (SpOk.cons Z1fn SpOk.nil)) mixed (InlOk.cons Tryz.func63 Z5q (InlOk.cons Tryz.func64 Z1nl InlOk.nil)) Tryz.func35 Z1tk h
noncomputable def Z6h : List D → Option D
 | [.agg [.list a0_0n a0_0c a0_0], .agg [.list a1_0n a1_0c a1_0]] => Zzj M a0_0n a0_0c a0_0 a1_0n a1_0c a1_0
 | _ => none
theorem Z1tm : ∀ ds d, Z6h ds = some d → DataSem Tryz.prog 35 ds d := by
 intro ds d h
 unfold Z6h at h
 split at h
 ·exact Z1tl ((Z1nm M _ _ _ _ _ _).trans h)
 ·cases h
end Go.Ev