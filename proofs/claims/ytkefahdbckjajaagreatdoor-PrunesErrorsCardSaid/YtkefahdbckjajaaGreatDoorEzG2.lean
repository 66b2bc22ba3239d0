/- Functions of the given program in plain form, printed: each with the proof that it is what the evaluator comes to, and that the program function returns what it says. No conditions. -/
import Derived.Test.YtkefahdbckjajaaGreatDoorEzG1
set_option linter.unusedVariables false
set_option maxRecDepth 100000
namespace Go.Ev
open Go Go.Proofs

-- ('str', '"vidimus/vidimusref23.Any"')
def Zel : FnH := ⟨[], []⟩
noncomputable def Zp4 : Hints := ⟨[], [], []⟩
noncomputable def Zsw (m : Nat)  : Option D :=
 some (D.agg [(D.v (.int .u8 (5 : Int))), (D.v (.int .u32 (2 : Int))), (D.v (.int .u32 (5 : Int))), (D.v (.int .u32 (29 : Int))), (D.v (.int .u32 (32 : Int))), zU, zU, zU, zU, zU, zU, zU, zU, zU, zU, zU, zU])
theorem Ztz (m : Nat)  : funD Tryz.prog Zp4 m 4 Zel Tryz.f35 [] = Zsw m  := by kernel_rfl
theorem Zv8 : Enters Tryz.prog 35 := ⟨Tryz.f35, Tryz.func35, by kernel_rfl, by kernel_rfl⟩
theorem Zv9 {ds : List D} {d : D} (h : funD Tryz.prog Zp4 M 4 Zel Tryz.f35 ds = some d) : DataSem Tryz.prog 35 ds d := data_sound (H := Zp4) SpOk.nil mixed InlOk.nil Tryz.func35 Zv8 h
noncomputable def Zgy : List D → Option D
  | [] => Zsw M 
  | _ => none
theorem Zri : ∀ ds d, Zgy ds = some d → DataSem Tryz.prog 35 ds d := by
  intro ds d h
  unfold Zgy at h
  split at h
  · exact Zv9 ((Ztz M ).trans h)
  · cases h

-- ('str', '"vidimus/vidimuslaw23.Policy"')
def Z7s : FnH := ⟨[], []⟩
noncomputable def Zkd : Hints := ⟨[(35, Zgy)], [], []⟩
noncomputable def Zor (m : Nat) (a0 : Int) : Option D :=
 cond ((Int.tmod a0 (7 : Int)) == (6 : Int))
 ((Zgy []).bind fun d1 =>
 (rdA (some d1)).bind fun c2 =>
 if (List.length c2) = 17 then
 some (D.agg c2)
 else none)
 (some (D.agg [(D.v (.int .u8 (3 : Int))), (D.v (.int .u32 (1 : Int))), (D.v (.int .u32 (2 : Int))), (D.v (.int .u32 (IntKind.wrap .u32 ((3 : Int) + (IntKind.wrap .u32 (Int.tmod a0 (7 : Int))))))), zU, zU, zU, zU, zU, zU, zU, zU, zU, zU, zU, zU, zU]))
theorem Zr2 (m : Nat) (a0 : Int) : funD Tryz.prog Zkd m 4 Z7s Tryz.f38 [(D.v (.int .u8 a0))] = Zor m a0 := by kernel_rfl
theorem Zsx : Enters Tryz.prog 38 := ⟨Tryz.f38, Tryz.func38, by kernel_rfl, by kernel_rfl⟩
theorem Zsy {ds : List D} {d : D} (h : funD Tryz.prog Zkd M 4 Z7s Tryz.f38 ds = some d) : DataSem Tryz.prog 38 ds d := data_sound (H := Zkd) (SpOk.cons Zri SpOk.nil) mixed InlOk.nil Tryz.func38 Zsx h
noncomputable def Ziq : List D → Option D
  | [.v (.int .u8 a0)] => Zor M a0
  | _ => none
theorem Zsz : ∀ ds d, Ziq ds = some d → DataSem Tryz.prog 38 ds d := by
  intro ds d h
  unfold Ziq at h
  split at h
  · exact Zsy ((Zr2 M _).trans h)
  · cases h

-- ('str', '"vidimus/vidimuslaw23.Notes"')
def Z29 : FnH := ⟨[(2, ⟨(bm 38 34), [], (some 1)⟩)], [(5, ⟨(bm 38 34), [], (some 1)⟩)]⟩
noncomputable def Z3j : Hints := ⟨[], [], []⟩
noncomputable def Zem (m n0 : Nat) (y0_0 : Int) (y0_1 : Int) (y0_2 : Nat) (y0_3 : Option Nat) (y0_4 : List D) : Option D :=
 loopIter (bm 38 34) 0 1 (codeK Tryz.prog Z3j.sp ⟨0, [], false, []⟩ (inlK Tryz.prog Z3j m 4) m Z29 (subc [1, 1, 0, 0, 0] (bodyOf Tryz.f34))) n0 ⟨[.junk, (AV.d (D.v (.int .i64 y0_0))), (AV.ptr 0 0), .junk, .junk, (AV.d (D.v (.int .i64 y0_1))), .junk, .junk, .junk, .junk, .junk, .junk, .junk, .junk, .junk, .junk, .junk, .junk, .junk, .junk, .junk, .junk, .junk, .junk, .junk, .junk, .junk, .junk, .junk, .junk, .junk, .junk, .junk, .junk], [(Blk.d 1 [(D.list y0_2 y0_3 y0_4)])]⟩
  (contK Tryz.prog Z3j.sp ⟨0, [], false, []⟩ (inlK Tryz.prog Z3j m 4) m Z29 (endK Tryz.prog Tryz.f34 (fun v L => viewK L 8 v some)) [.block 0, .code (subc [1, 1, 1] (bodyOf Tryz.f34))])
noncomputable def Zm8 (m n0 : Nat) (u0_0 : Int) (u0_1 : Int) (u0_2 : Nat) (u0_3 : Option Nat) (u0_4 : List D) : Option D :=
 cutK m (codeK Tryz.prog Z3j.sp ⟨0, [], false, []⟩ (inlK Tryz.prog Z3j m 4) m Z29 (subc [1, 1, 0, 0, 0, 1, 0, 1] (bodyOf Tryz.f34)) ⟨[.junk, (AV.d (D.v (.int .i64 u0_0))), (AV.ptr 0 0), .junk, .junk, (AV.d (D.v (.int .i64 u0_1))), .junk, .junk, .junk, .junk, .junk, .junk, .junk, .junk, .junk, .junk, .junk, .junk, .junk, .junk, .junk, .junk, .junk, .junk, .junk, .junk, .junk, .junk, .junk, .junk, .junk, .junk, .junk, .junk], [(Blk.d 1 [(D.list u0_2 u0_3 u0_4)])]⟩
  (contK Tryz.prog Z3j.sp ⟨0, [], false, []⟩ (inlK Tryz.prog Z3j m 4) m Z29 (endK Tryz.prog Tryz.f34 (fun v L => viewK L 8 v some)) [.block 1, .loop (bm 38 34) 1 (subc [1, 1, 0, 0, 0] (bodyOf Tryz.f34)) n0, .block 0, .code (subc [1, 1, 1] (bodyOf Tryz.f34))]))
theorem Zqe (m n0 : Nat) (u0_0 : Int) (u0_1 : Int) (u0_2 : Nat) (u0_3 : Option Nat) (u0_4 : List D) : Zm8 m n0 u0_0 u0_1 u0_2 u0_3 u0_4 =
 (if 0 ≤ u0_0 ∧ u0_0 < ((u0_2 : Nat) : Int) then
 (rdI .i64 u0_4[(((Int.toNat u0_0) * 20) + 0)]?).bind fun x9 =>
 Zem m n0 x9 (IntKind.wrap .i64 (u0_1 + (1 : Int))) u0_2 u0_3 u0_4
 else none) := (cutK_eq m _).trans (by kernel_rfl)
theorem Zr3 (m n0 : Nat) (y0_0 : Int) (y0_1 : Int) (y0_2 : Nat) (y0_3 : Option Nat) (y0_4 : List D) : Zem m (n0 + 1) y0_0 y0_1 y0_2 y0_3 y0_4 =
 (cond (decide (y0_0 > (0 : Int)))
 (if 0 ≤ y0_0 ∧ y0_0 < ((y0_2 : Nat) : Int) then
 (rdI .i64 y0_4[(((Int.toNat y0_0) * 20) + 0)]?).bind fun x7 =>
 cond (decide (x7 ≥ y0_0))
 (some (D.v (.int .i64 (100000 : Int))))
 (if 0 ≤ y0_0 ∧ y0_0 < ((y0_2 : Nat) : Int) then
 (rdI .i64 y0_4[(((Int.toNat y0_0) * 20) + 0)]?).bind fun x8 =>
 cond (decide (x8 < (0 : Int)))
 (some (D.v (.int .i64 (100000 : Int))))
 (Zm8 m n0 y0_0 y0_1 y0_2 y0_3 y0_4)
 else none)
 else none)
 (some (D.v (.int .i64 y0_1)))) := by kernel_rfl
noncomputable def Zi0 (m : Nat) (a0_0n : Nat) (a0_0c : Option Nat) (a0_0 : List D) (a1 : Int) : Option D :=
 Zem m m a1 (0 : Int) a0_0n a0_0c a0_0
theorem Zs5 (m : Nat) (a0_0n : Nat) (a0_0c : Option Nat) (a0_0 : List D) (a1 : Int) : funD Tryz.prog Z3j m 4 Z29 Tryz.f34 [(D.agg [(D.list a0_0n a0_0c a0_0)]), (D.v (.int .i64 a1))] = Zi0 m a0_0n a0_0c a0_0 a1 := by kernel_rfl
theorem Zu0 : Enters Tryz.prog 34 := ⟨Tryz.f34, Tryz.func34, by kernel_rfl, by kernel_rfl⟩
theorem Zu1 {ds : List D} {d : D} (h : funD Tryz.prog Z3j M 4 Z29 Tryz.f34 ds = some d) : DataSem Tryz.prog 34 ds d := data_sound (H := Z3j) SpOk.nil mixed InlOk.nil Tryz.func34 Zu0 h
noncomputable def Z4n : List D → Option D
  | [.agg [.list a0_0n a0_0c a0_0], .v (.int .i64 a1)] => Zi0 M a0_0n a0_0c a0_0 a1
  | _ => none
theorem Zos : ∀ ds d, Z4n ds = some d → DataSem Tryz.prog 34 ds d := by
  intro ds d h
  unfold Z4n at h
  split at h
  · exact Zu1 ((Zs5 M _ _ _ _).trans h)
  · cases h

-- ('str', '"vidimus/vidimusref26.node"')
def Z3z : FnH := ⟨[(10, ⟨(bm 34 39), [], (some 1)⟩)], []⟩
noncomputable def Zag : Hints := ⟨[(53, Zc6), (91, Z5h), (104, Zc5)], [], []⟩
noncomputable def Zen (m n0 : Nat) (y0_0 : Int) (y0_1 : List D) : Option D :=
 loopIter (bm 34 39) 0 1 (codeK Tryz.prog Zag.sp ⟨0, [], false, []⟩ (inlK Tryz.prog Zag m 4) m Z3z (subc [1, 1, 1, 1, 0, 1, 0, 0] (bodyOf Tryz.f63))) n0 ⟨[.junk, (AV.ptr 0 0), .junk, .junk, .junk, (AV.d (D.v (.int .i64 y0_0))), .junk, .junk, .junk, .junk, .junk, .junk, .junk, .junk, .junk, .junk, .junk, .junk, .junk, .junk, .junk, .junk, .junk, .junk, .junk, .junk, .junk, .junk, .junk, .junk, .junk, .junk, .junk, .junk, .junk, .junk, .junk, .junk, .junk], [(Blk.d 20 y0_1)]⟩
  (contK Tryz.prog Zag.sp ⟨0, [], false, []⟩ (inlK Tryz.prog Zag m 4) m Z3z (endK Tryz.prog Tryz.f63 (fun v L => viewK L 8 v some)) [.block 0, .code (subc [1, 1, 1, 1, 1] (bodyOf Tryz.f63))])
theorem Zr4 (m n0 : Nat) (y0_0 : Int) (y0_1 : List D) : Zen m (n0 + 1) y0_0 y0_1 =
 ((rdL y0_1[19]?).bind fun q15 =>
 cond (decide (y0_0 < ((q15.n : Nat) : Int)))
 ((rdL y0_1[19]?).bind fun q16 =>
 if 0 ≤ y0_0 ∧ y0_0 < ((q16.n : Nat) : Int) then
 if (((Int.toNat y0_0) * 27) + 27) ≤ (List.length q16.cs) then
 (Zc5 [(D.agg ((List.drop ((Int.toNat y0_0) * 27) q16.cs).take 27))]).bind fun d17 =>
 (rdI .i64 (some d17)).bind fun x18 =>
 cond (x18 != (0 : Int))
 (some (D.v (.int .i64 x18)))
 (Zen m n0 (IntKind.wrap .i64 (y0_0 + (1 : Int))) y0_1)
 else none
 else none)
 (some zI)) := by kernel_rfl
noncomputable def Zjy (m : Nat) (a0 : List D) : Option D :=
 if (List.length a0) = 20 then
 (Z5h [(D.agg ((List.drop 1 a0).take 17))]).bind fun d1 =>
 (rdI .i64 (some d1)).bind fun x2 =>
 cond (x2 != (0 : Int))
 (some (D.v (.int .i64 x2)))
 ((rdL a0[18]?).bind fun q3 =>
 (Zc6 [(D.list q3.n q3.cap q3.cs)]).bind fun d4 =>
 (rdI .i64 (some d4)).bind fun x5 =>
 cond (x5 != (0 : Int))
 (some (D.v (.int .i64 x5)))
 ((rdL a0[19]?).bind fun q6 =>
 cond (decide (((q6.n : Nat) : Int) > (8 : Int)))
 (some (D.v (.int .i64 (3 : Int))))
 (Zen m m (0 : Int) a0)))
 else none
theorem Zt0 (m : Nat) (a0 : List D) : funD Tryz.prog Zag m 4 Z3z Tryz.f63 [(D.agg a0)] = Zjy m a0 := by kernel_rfl
theorem Zur : Enters Tryz.prog 63 := ⟨Tryz.f63, Tryz.func63, by kernel_rfl, by kernel_rfl⟩
theorem Zus {ds : List D} {d : D} (h : funD Tryz.prog Zag M 4 Z3z Tryz.f63 ds = some d) : DataSem Tryz.prog 63 ds d := data_sound (H := Zag) (SpOk.cons Zty (SpOk.cons Zop (SpOk.cons Ztt SpOk.nil))) mixed InlOk.nil Tryz.func63 Zur h
noncomputable def Zeo : List D → Option D
  | [.agg a0] => Zjy M a0
  | _ => none
theorem Zut : ∀ ds d, Zeo ds = some d → DataSem Tryz.prog 63 ds d := by
  intro ds d h
  unfold Zeo at h
  split at h
  · exact Zus ((Zt0 M _).trans h)
  · cases h

-- ('str', '"vidimus/vidimusref26.Check"')
def Zs : FnH := ⟨[(4, ⟨(bm 10 120), [], (some 1)⟩)], [(9, ⟨(bm 26 120), [], (some 2)⟩), (11, ⟨(bm 26 120), [], (some 2)⟩), (13, ⟨(bm 26 120), [], (some 2)⟩), (15, ⟨(bm 26 120), [], (some 2)⟩)]⟩
noncomputable def Z15 : Hints := ⟨[(34, Z4n), (62, Z4i), (63, Zeo)], [], []⟩
noncomputable def Zep (m n0 : Nat) (y0_0 : Int) (y0_1 : Nat) (y0_2 : Option Nat) (y0_3 : List D) : Option D :=
 loopIter (bm 10 120) 0 1 (codeK Tryz.prog Z15.sp ⟨0, [], false, []⟩ (inlK Tryz.prog Z15 m 4) m Zs (subc [1, 1, 0, 1, 0, 0] (bodyOf Tryz.f17))) n0 ⟨[.junk, (AV.ptr 0 0), .junk, (AV.d (D.v (.int .i64 y0_0))), .junk, .junk, .junk, .junk, .junk, .junk, .junk, .junk, .junk, .junk, .junk, .junk, .junk, .junk, .junk, .junk, .junk, .junk, .junk, .junk, .junk, .junk, .junk, .junk, .junk, .junk, .junk, .junk, .junk, .junk, .junk, .junk, .junk, .junk, .junk, .junk, .junk, .junk, .junk, .junk, .junk, .junk, .junk, .junk, .junk, .junk, .junk, .junk, .junk, .junk, .junk, .junk, .junk, .junk, .junk, .junk, .junk, .junk, .junk, .junk, .junk, .junk, .junk, .junk, .junk, .junk, .junk, .junk, .junk, .junk, .junk, .junk, .junk, .junk, .junk, .junk, .junk, .junk, .junk, .junk, .junk, .junk, .junk, .junk, .junk, .junk, .junk, .junk, .junk, .junk, .junk, .junk, .junk, .junk, .junk, .junk, .junk, .junk, .junk, .junk, .junk, .junk, .junk, .junk, .junk, .junk, .junk, .junk, .junk, .junk, .junk, .junk, .junk, .junk, .junk, .junk], [(Blk.d 1 [(D.list y0_1 y0_2 y0_3)])]⟩
  (contK Tryz.prog Z15.sp ⟨0, [], false, []⟩ (inlK Tryz.prog Z15 m 4) m Zs (endK Tryz.prog Tryz.f17 (fun v L => viewK L 8 v some)) [.block 0, .code (subc [1, 1, 1] (bodyOf Tryz.f17))])
noncomputable def Z56 (m n0 : Nat) (u0_0 : Int) (u0_1 : Nat) (u0_2 : Option Nat) (u0_3 : List D) (u0_4 : List D) : Option D :=
 cutK m (codeK Tryz.prog Z15.sp ⟨0, [], false, []⟩ (inlK Tryz.prog Z15 m 4) m Zs (subc [1, 1, 0, 1, 0, 0, 1, 0, 0, 1, 1] (bodyOf Tryz.f17)) ⟨[.junk, (AV.ptr 0 0), .junk, (AV.d (D.v (.int .i64 u0_0))), (AV.ptr 1 0), .junk, .junk, .junk, .junk, .junk, .junk, .junk, .junk, .junk, .junk, .junk, .junk, .junk, .junk, .junk, .junk, .junk, .junk, .junk, .junk, .junk, .junk, .junk, .junk, .junk, .junk, .junk, .junk, .junk, .junk, .junk, .junk, .junk, .junk, .junk, .junk, .junk, .junk, .junk, .junk, .junk, .junk, .junk, .junk, .junk, .junk, .junk, .junk, .junk, .junk, .junk, .junk, .junk, .junk, .junk, .junk, .junk, .junk, .junk, .junk, .junk, .junk, .junk, .junk, .junk, .junk, .junk, .junk, .junk, .junk, .junk, .junk, .junk, .junk, .junk, .junk, .junk, .junk, .junk, .junk, .junk, .junk, .junk, .junk, .junk, .junk, .junk, .junk, .junk, .junk, .junk, .junk, .junk, .junk, .junk, .junk, .junk, .junk, .junk, .junk, .junk, .junk, .junk, .junk, .junk, .junk, .junk, .junk, .junk, .junk, .junk, .junk, .junk, .junk, .junk], [(Blk.d 1 [(D.list u0_1 u0_2 u0_3)]), (Blk.d 20 u0_4)]⟩
  (contK Tryz.prog Z15.sp ⟨0, [], false, []⟩ (inlK Tryz.prog Z15 m 4) m Zs (endK Tryz.prog Tryz.f17 (fun v L => viewK L 8 v some)) [.block 1, .code (subc [1, 1, 0, 1, 0, 0, 1, 1] (bodyOf Tryz.f17)), .loop (bm 10 120) 1 (subc [1, 1, 0, 1, 0, 0] (bodyOf Tryz.f17)) n0, .block 0, .code (subc [1, 1, 1] (bodyOf Tryz.f17))]))
noncomputable def Zfm (m n0 : Nat) (u1_0 : Int) (u1_1 : Nat) (u1_2 : Option Nat) (u1_3 : List D) (u1_4 : List D) : Option D :=
 cutK m (codeK Tryz.prog Z15.sp ⟨0, [], false, []⟩ (inlK Tryz.prog Z15 m 4) m Zs (subc [1, 1, 0, 1, 0, 0, 1, 0, 0, 1, 1, 1] (bodyOf Tryz.f17)) ⟨[.junk, (AV.ptr 0 0), .junk, (AV.d (D.v (.int .i64 u1_0))), (AV.ptr 1 0), .junk, .junk, .junk, .junk, .junk, .junk, .junk, .junk, .junk, .junk, .junk, .junk, .junk, .junk, .junk, .junk, .junk, .junk, .junk, .junk, .junk, .junk, .junk, .junk, .junk, .junk, .junk, .junk, .junk, .junk, .junk, .junk, .junk, .junk, .junk, .junk, .junk, .junk, .junk, .junk, .junk, .junk, .junk, .junk, .junk, .junk, .junk, .junk, .junk, .junk, .junk, .junk, .junk, .junk, .junk, .junk, .junk, .junk, .junk, .junk, .junk, .junk, .junk, .junk, .junk, .junk, .junk, .junk, .junk, .junk, .junk, .junk, .junk, .junk, .junk, .junk, .junk, .junk, .junk, .junk, .junk, .junk, .junk, .junk, .junk, .junk, .junk, .junk, .junk, .junk, .junk, .junk, .junk, .junk, .junk, .junk, .junk, .junk, .junk, .junk, .junk, .junk, .junk, .junk, .junk, .junk, .junk, .junk, .junk, .junk, .junk, .junk, .junk, .junk, .junk], [(Blk.d 1 [(D.list u1_1 u1_2 u1_3)]), (Blk.d 20 u1_4)]⟩
  (contK Tryz.prog Z15.sp ⟨0, [], false, []⟩ (inlK Tryz.prog Z15 m 4) m Zs (endK Tryz.prog Tryz.f17 (fun v L => viewK L 8 v some)) [.block 1, .code (subc [1, 1, 0, 1, 0, 0, 1, 1] (bodyOf Tryz.f17)), .loop (bm 10 120) 1 (subc [1, 1, 0, 1, 0, 0] (bodyOf Tryz.f17)) n0, .block 0, .code (subc [1, 1, 1] (bodyOf Tryz.f17))]))
noncomputable def Z6d (m n0 : Nat) (u2_0 : Int) (u2_1 : Nat) (u2_2 : Option Nat) (u2_3 : List D) (u2_4 : List D) : Option D :=
 cutK m (codeK Tryz.prog Z15.sp ⟨0, [], false, []⟩ (inlK Tryz.prog Z15 m 4) m Zs (subc [1, 1, 0, 1, 0, 0, 1, 0, 0, 1, 1, 1, 1] (bodyOf Tryz.f17)) ⟨[.junk, (AV.ptr 0 0), .junk, (AV.d (D.v (.int .i64 u2_0))), (AV.ptr 1 0), .junk, .junk, .junk, .junk, .junk, .junk, .junk, .junk, .junk, .junk, .junk, .junk, .junk, .junk, .junk, .junk, .junk, .junk, .junk, .junk, .junk, .junk, .junk, .junk, .junk, .junk, .junk, .junk, .junk, .junk, .junk, .junk, .junk, .junk, .junk, .junk, .junk, .junk, .junk, .junk, .junk, .junk, .junk, .junk, .junk, .junk, .junk, .junk, .junk, .junk, .junk, .junk, .junk, .junk, .junk, .junk, .junk, .junk, .junk, .junk, .junk, .junk, .junk, .junk, .junk, .junk, .junk, .junk, .junk, .junk, .junk, .junk, .junk, .junk, .junk, .junk, .junk, .junk, .junk, .junk, .junk, .junk, .junk, .junk, .junk, .junk, .junk, .junk, .junk, .junk, .junk, .junk, .junk, .junk, .junk, .junk, .junk, .junk, .junk, .junk, .junk, .junk, .junk, .junk, .junk, .junk, .junk, .junk, .junk, .junk, .junk, .junk, .junk, .junk, .junk], [(Blk.d 1 [(D.list u2_1 u2_2 u2_3)]), (Blk.d 20 u2_4)]⟩
  (contK Tryz.prog Z15.sp ⟨0, [], false, []⟩ (inlK Tryz.prog Z15 m 4) m Zs (endK Tryz.prog Tryz.f17 (fun v L => viewK L 8 v some)) [.block 1, .code (subc [1, 1, 0, 1, 0, 0, 1, 1] (bodyOf Tryz.f17)), .loop (bm 10 120) 1 (subc [1, 1, 0, 1, 0, 0] (bodyOf Tryz.f17)) n0, .block 0, .code (subc [1, 1, 1] (bodyOf Tryz.f17))]))
noncomputable def Z6e (m n0 : Nat) (u3_0 : Int) (u3_1 : Nat) (u3_2 : Option Nat) (u3_3 : List D) (u3_4 : List D) : Option D :=
 cutK m (codeK Tryz.prog Z15.sp ⟨0, [], false, []⟩ (inlK Tryz.prog Z15 m 4) m Zs (subc [1, 1, 0, 1, 0, 0, 1, 0, 0, 1, 1, 1, 1, 1] (bodyOf Tryz.f17)) ⟨[.junk, (AV.ptr 0 0), .junk, (AV.d (D.v (.int .i64 u3_0))), (AV.ptr 1 0), .junk, .junk, .junk, .junk, .junk, .junk, .junk, .junk, .junk, .junk, .junk, .junk, .junk, .junk, .junk, .junk, .junk, .junk, .junk, .junk, .junk, .junk, .junk, .junk, .junk, .junk, .junk, .junk, .junk, .junk, .junk, .junk, .junk, .junk, .junk, .junk, .junk, .junk, .junk, .junk, .junk, .junk, .junk, .junk, .junk, .junk, .junk, .junk, .junk, .junk, .junk, .junk, .junk, .junk, .junk, .junk, .junk, .junk, .junk, .junk, .junk, .junk, .junk, .junk, .junk, .junk, .junk, .junk, .junk, .junk, .junk, .junk, .junk, .junk, .junk, .junk, .junk, .junk, .junk, .junk, .junk, .junk, .junk, .junk, .junk, .junk, .junk, .junk, .junk, .junk, .junk, .junk, .junk, .junk, .junk, .junk, .junk, .junk, .junk, .junk, .junk, .junk, .junk, .junk, .junk, .junk, .junk, .junk, .junk, .junk, .junk, .junk, .junk, .junk, .junk], [(Blk.d 1 [(D.list u3_1 u3_2 u3_3)]), (Blk.d 20 u3_4)]⟩
  (contK Tryz.prog Z15.sp ⟨0, [], false, []⟩ (inlK Tryz.prog Z15 m 4) m Zs (endK Tryz.prog Tryz.f17 (fun v L => viewK L 8 v some)) [.block 1, .code (subc [1, 1, 0, 1, 0, 0, 1, 1] (bodyOf Tryz.f17)), .loop (bm 10 120) 1 (subc [1, 1, 0, 1, 0, 0] (bodyOf Tryz.f17)) n0, .block 0, .code (subc [1, 1, 1] (bodyOf Tryz.f17))]))
theorem Zp5 (m n0 : Nat) (u3_0 : Int) (u3_1 : Nat) (u3_2 : Option Nat) (u3_3 : List D) (u3_4 : List D) : Z6e m n0 u3_0 u3_1 u3_2 u3_3 u3_4 =
 ((Z4n [(D.agg [(D.list u3_1 u3_2 u3_3)]), (D.v (.int .i64 u3_0))]).bind fun d36 =>
 (rdI .i64 (some d36)).bind fun x37 =>
 cond (decide (x37 > (64 : Int)))
 (some (D.v (.int .i64 (12 : Int))))
 ((Zeo [(D.agg u3_4)]).bind fun d38 =>
 (rdI .i64 (some d38)).bind fun x39 =>
 cond (x39 != (0 : Int))
 (some (D.v (.int .i64 x39)))
 (Zep m n0 (IntKind.wrap .i64 (u3_0 + (1 : Int))) u3_1 u3_2 u3_3))) := (cutK_eq m _).trans (by kernel_rfl)
theorem Zir (m n0 : Nat) (u2_0 : Int) (u2_1 : Nat) (u2_2 : Option Nat) (u2_3 : List D) (u2_4 : List D) : Z6d m n0 u2_0 u2_1 u2_2 u2_3 u2_4 =
 (cond (decide (u2_0 ≥ (2 : Int)))
 ((rdI .i64 u2_4[0]?).bind fun x33 =>
 if 0 ≤ (IntKind.wrap .i64 (u2_0 - (1 : Int))) ∧ (IntKind.wrap .i64 (u2_0 - (1 : Int))) < ((u2_1 : Nat) : Int) then
 (rdI .i64 u2_3[(((Int.toNat (IntKind.wrap .i64 (u2_0 - (1 : Int)))) * 20) + 0)]?).bind fun x34 =>
 cond (x33 == x34)
 (if 0 ≤ (IntKind.wrap .i64 (u2_0 - (1 : Int))) ∧ (IntKind.wrap .i64 (u2_0 - (1 : Int))) < ((u2_1 : Nat) : Int) then
 if ((((Int.toNat (IntKind.wrap .i64 (u2_0 - (1 : Int)))) * 20) + 1) + 17) ≤ (List.length u2_3) then
 (cellsEq [.int, .int, .int, .int, .int, .int, .int, .int, .int, .int, .int, .int, .int, .int, .int, .int, .int] ((List.drop 1 u2_4).take 17) ((List.drop (((Int.toNat (IntKind.wrap .i64 (u2_0 - (1 : Int)))) * 20) + 1) u2_3).take 17)).bind fun b35 =>
 cond b35
 (some (D.v (.int .i64 (14 : Int))))
 (Z6e m n0 u2_0 u2_1 u2_2 u2_3 u2_4)
 else none
 else none)
 (Z6e m n0 u2_0 u2_1 u2_2 u2_3 u2_4)
 else none)
 (Z6e m n0 u2_0 u2_1 u2_2 u2_3 u2_4)) := (cutK_eq m _).trans (by kernel_rfl)
theorem Zis (m n0 : Nat) (u1_0 : Int) (u1_1 : Nat) (u1_2 : Option Nat) (u1_3 : List D) (u1_4 : List D) : Zfm m n0 u1_0 u1_1 u1_2 u1_3 u1_4 =
 (cond (decide (u1_0 ≥ (2 : Int)))
 ((rdI .i64 u1_4[0]?).bind fun x29 =>
 if 0 ≤ (IntKind.wrap .i64 (u1_0 - (1 : Int))) ∧ (IntKind.wrap .i64 (u1_0 - (1 : Int))) < ((u1_1 : Nat) : Int) then
 (rdI .i64 u1_3[(((Int.toNat (IntKind.wrap .i64 (u1_0 - (1 : Int)))) * 20) + 0)]?).bind fun x30 =>
 cond (x29 == x30)
 (if 0 ≤ (IntKind.wrap .i64 (u1_0 - (1 : Int))) ∧ (IntKind.wrap .i64 (u1_0 - (1 : Int))) < ((u1_1 : Nat) : Int) then
 if ((((Int.toNat (IntKind.wrap .i64 (u1_0 - (1 : Int)))) * 20) + 1) + 17) ≤ (List.length u1_3) then
 (Z4i [(D.agg ((List.drop 1 u1_4).take 17)), (D.agg ((List.drop (((Int.toNat (IntKind.wrap .i64 (u1_0 - (1 : Int)))) * 20) + 1) u1_3).take 17))]).bind fun d31 =>
 (rdI .i64 (some d31)).bind fun x32 =>
 cond (decide (x32 < (0 : Int)))
 (some (D.v (.int .i64 (13 : Int))))
 (Z6d m n0 u1_0 u1_1 u1_2 u1_3 u1_4)
 else none
 else none)
 (Z6d m n0 u1_0 u1_1 u1_2 u1_3 u1_4)
 else none)
 (Z6d m n0 u1_0 u1_1 u1_2 u1_3 u1_4)) := (cutK_eq m _).trans (by kernel_rfl)
theorem Zqf (m n0 : Nat) (u0_0 : Int) (u0_1 : Nat) (u0_2 : Option Nat) (u0_3 : List D) (u0_4 : List D) : Z56 m n0 u0_0 u0_1 u0_2 u0_3 u0_4 =
 (cond (decide (u0_0 ≥ (2 : Int)))
 ((rdI .i64 u0_4[0]?).bind fun x27 =>
 if 0 ≤ (IntKind.wrap .i64 (u0_0 - (1 : Int))) ∧ (IntKind.wrap .i64 (u0_0 - (1 : Int))) < ((u0_1 : Nat) : Int) then
 (rdI .i64 u0_3[(((Int.toNat (IntKind.wrap .i64 (u0_0 - (1 : Int)))) * 20) + 0)]?).bind fun x28 =>
 cond (decide (x27 < x28))
 (some (D.v (.int .i64 (13 : Int))))
 (Zfm m n0 u0_0 u0_1 u0_2 u0_3 u0_4)
 else none)
 (Zfm m n0 u0_0 u0_1 u0_2 u0_3 u0_4)) := (cutK_eq m _).trans (by kernel_rfl)
theorem Zr5 (m n0 : Nat) (y0_0 : Int) (y0_1 : Nat) (y0_2 : Option Nat) (y0_3 : List D) : Zep m (n0 + 1) y0_0 y0_1 y0_2 y0_3 =
 (cond (decide (y0_0 < ((y0_1 : Nat) : Int)))
 (if 0 ≤ y0_0 ∧ y0_0 < ((y0_1 : Nat) : Int) then
 if (((Int.toNat y0_0) * 20) + 20) ≤ (List.length y0_3) then
 if (List.length ((List.drop ((Int.toNat y0_0) * 20) y0_3).take 20)) = 20 then
 cond (y0_0 == (0 : Int))
 ((rdI .i64 ((List.drop ((Int.toNat y0_0) * 20) y0_3).take 20)[0]?).bind fun x24 =>
 cond (x24 != (-1 : Int))
 (some (D.v (.int .i64 (1 : Int))))
 (cond (decide (y0_0 > (0 : Int)))
 ((rdI .i64 ((List.drop ((Int.toNat y0_0) * 20) y0_3).take 20)[0]?).bind fun x25 =>
 cond (decide (x25 < (0 : Int)))
 (some (D.v (.int .i64 (1 : Int))))
 ((rdI .i64 ((List.drop ((Int.toNat y0_0) * 20) y0_3).take 20)[0]?).bind fun x26 =>
 cond (decide (x26 ≥ y0_0))
 (some (D.v (.int .i64 (1 : Int))))
 (Z56 m n0 y0_0 y0_1 y0_2 y0_3 ((List.drop ((Int.toNat y0_0) * 20) y0_3).take 20))))
 (Z56 m n0 y0_0 y0_1 y0_2 y0_3 ((List.drop ((Int.toNat y0_0) * 20) y0_3).take 20))))
 (cond (decide (y0_0 > (0 : Int)))
 ((rdI .i64 ((List.drop ((Int.toNat y0_0) * 20) y0_3).take 20)[0]?).bind fun x40 =>
 cond (decide (x40 < (0 : Int)))
 (some (D.v (.int .i64 (1 : Int))))
 ((rdI .i64 ((List.drop ((Int.toNat y0_0) * 20) y0_3).take 20)[0]?).bind fun x41 =>
 cond (decide (x41 ≥ y0_0))
 (some (D.v (.int .i64 (1 : Int))))
 (Z56 m n0 y0_0 y0_1 y0_2 y0_3 ((List.drop ((Int.toNat y0_0) * 20) y0_3).take 20))))
 (Z56 m n0 y0_0 y0_1 y0_2 y0_3 ((List.drop ((Int.toNat y0_0) * 20) y0_3).take 20)))
 else none
 else none
 else none)
 (some zI)) := by kernel_rfl
noncomputable def Zi1 (m : Nat) (a0_0n : Nat) (a0_0c : Option Nat) (a0_0 : List D) : Option D :=
 cond (decide (((a0_0n : Nat) : Int) > (65536 : Int)))
 (some (D.v (.int .i64 (3 : Int))))
 (Zep m m (0 : Int) a0_0n a0_0c a0_0)
theorem Zs6 (m : Nat) (a0_0n : Nat) (a0_0c : Option Nat) (a0_0 : List D) : funD Tryz.prog Z15 m 4 Zs Tryz.f17 [(D.agg [(D.list a0_0n a0_0c a0_0)])] = Zi1 m a0_0n a0_0c a0_0 := by kernel_rfl
theorem Zu2 : Enters Tryz.prog 17 := ⟨Tryz.f17, Tryz.func17, by kernel_rfl, by kernel_rfl⟩
theorem Zu3 {ds : List D} {d : D} (h : funD Tryz.prog Z15 M 4 Zs Tryz.f17 ds = some d) : DataSem Tryz.prog 17 ds d := data_sound (H := Z15) (SpOk.cons Zos (SpOk.cons Zm6 (SpOk.cons Zut SpOk.nil))) mixed InlOk.nil Tryz.func17 Zu2 h
noncomputable def Z1w : List D → Option D
  | [.agg [.list a0_0n a0_0c a0_0]] => Zi1 M a0_0n a0_0c a0_0
  | _ => none
theorem Zu4 : ∀ ds d, Z1w ds = some d → DataSem Tryz.prog 17 ds d := by
  intro ds d h
  unfold Z1w at h
  split at h
  · exact Zu3 ((Zs6 M _ _ _).trans h)
  · cases h

-- ('str', '"vidimus/vidimusref26.Children"')
def Z10 : FnH := ⟨[(3, ⟨(bm 102 27), [(5, 1)], (some 2)⟩)], [(4, ⟨(bm 102 27), [], (some 3)⟩)]⟩
noncomputable def Z1j : Hints := ⟨[], [], []⟩
noncomputable def Z5f (m n0 : Nat) (y0_0 : Int) (y0_1 : Nat) (y0_2 : Int) (y0_3 : Nat) (y0_4 : Option Nat) (y0_5 : List D) (y0_6 : Nat) (y0_7 : List D) : Option D :=
 loopIter (bm 102 27) 0 2 (codeK Tryz.prog Z1j.sp ⟨0, [], false, []⟩ (inlK Tryz.prog Z1j m 4) m Z10 (subc [1, 1, 0, 1, 0, 0] (bodyOf Tryz.f44))) n0 ⟨[.junk, (AV.d (D.v (.int .i64 y0_0))), (AV.ptr 0 0), .junk, .junk, (AV.sl 1 0 y0_1 none 1), (AV.d (D.v (.int .i64 y0_2))), .junk, .junk, .junk, .junk, .junk, .junk, .junk, .junk, .junk, .junk, .junk, .junk, .junk, .junk, .junk, .junk, .junk, .junk, .junk, .junk], [(Blk.d 1 [(D.list y0_3 y0_4 y0_5)]), (Blk.d y0_6 y0_7)]⟩
  (contK Tryz.prog Z1j.sp ⟨0, [], false, []⟩ (inlK Tryz.prog Z1j m 4) m Z10 (endK Tryz.prog Tryz.f44 (fun v L => viewK L 8 v some)) [.block 0, .code (subc [1, 1, 1] (bodyOf Tryz.f44))])
noncomputable def Zit (m n0 : Nat) (u0_0 : Int) (u0_1 : Nat) (u0_2 : Int) (u0_3 : Nat) (u0_4 : Option Nat) (u0_5 : List D) (u0_6 : Nat) (u0_7 : List D) (u0_8 : Int) : Option D :=
 cutK m (codeK Tryz.prog Z1j.sp ⟨0, [], false, []⟩ (inlK Tryz.prog Z1j m 4) m Z10 (subc [1, 1, 0, 1, 0, 0, 1, 1] (bodyOf Tryz.f44)) ⟨[.junk, (AV.d (D.v (.int .i64 u0_0))), (AV.ptr 0 0), .junk, .junk, (AV.sl 1 0 u0_1 none 1), (AV.d (D.v (.int .i64 u0_2))), .junk, .junk, .junk, .junk, .junk, .junk, .junk, .junk, .junk, .junk, .junk, .junk, .junk, .junk, .junk, .junk, .junk, .junk, .junk, .junk], [(Blk.d 1 [(D.list u0_3 u0_4 u0_5)]), (Blk.d u0_6 u0_7), (Blk.d 1 [(D.v (.int .i64 u0_8))])]⟩
  (contK Tryz.prog Z1j.sp ⟨0, [], false, []⟩ (inlK Tryz.prog Z1j m 4) m Z10 (endK Tryz.prog Tryz.f44 (fun v L => viewK L 8 v some)) [.loop (bm 102 27) 2 (subc [1, 1, 0, 1, 0, 0] (bodyOf Tryz.f44)) n0, .block 0, .code (subc [1, 1, 1] (bodyOf Tryz.f44))]))
theorem Zni (m n0 : Nat) (u0_0 : Int) (u0_1 : Nat) (u0_2 : Int) (u0_3 : Nat) (u0_4 : Option Nat) (u0_5 : List D) (u0_6 : Nat) (u0_7 : List D) (u0_8 : Int) : Zit m n0 u0_0 u0_1 u0_2 u0_3 u0_4 u0_5 u0_6 u0_7 u0_8 =
 (Z5f m n0 u0_0 u0_1 (IntKind.wrap .i64 (u0_2 + (1 : Int))) u0_3 u0_4 u0_5 u0_6 u0_7) := (cutK_eq m _).trans (by kernel_rfl)
noncomputable def Zgz (m n0 : Nat) (u1_0 : Int) (u1_1 : Nat) (u1_2 : Int) (u1_3 : Nat) (u1_4 : Option Nat) (u1_5 : List D) (u1_6 : Nat) (u1_7 : List D) : Option D :=
 cutK m (codeK Tryz.prog Z1j.sp ⟨0, [], false, []⟩ (inlK Tryz.prog Z1j m 4) m Z10 (subc [1, 1, 0, 1, 0, 0, 1, 1] (bodyOf Tryz.f44)) ⟨[.junk, (AV.d (D.v (.int .i64 u1_0))), (AV.ptr 0 0), .junk, .junk, (AV.sl 1 0 u1_1 none 1), (AV.d (D.v (.int .i64 u1_2))), .junk, .junk, .junk, .junk, .junk, .junk, .junk, .junk, .junk, .junk, .junk, .junk, .junk, .junk, .junk, .junk, .junk, .junk, .junk, .junk], [(Blk.d 1 [(D.list u1_3 u1_4 u1_5)]), (Blk.d u1_6 u1_7)]⟩
  (contK Tryz.prog Z1j.sp ⟨0, [], false, []⟩ (inlK Tryz.prog Z1j m 4) m Z10 (endK Tryz.prog Tryz.f44 (fun v L => viewK L 8 v some)) [.loop (bm 102 27) 2 (subc [1, 1, 0, 1, 0, 0] (bodyOf Tryz.f44)) n0, .block 0, .code (subc [1, 1, 1] (bodyOf Tryz.f44))]))
theorem Zld (m n0 : Nat) (u1_0 : Int) (u1_1 : Nat) (u1_2 : Int) (u1_3 : Nat) (u1_4 : Option Nat) (u1_5 : List D) (u1_6 : Nat) (u1_7 : List D) : Zgz m n0 u1_0 u1_1 u1_2 u1_3 u1_4 u1_5 u1_6 u1_7 =
 (Z5f m n0 u1_0 u1_1 (IntKind.wrap .i64 (u1_2 + (1 : Int))) u1_3 u1_4 u1_5 u1_6 u1_7) := (cutK_eq m _).trans (by kernel_rfl)
theorem Zo2 (m n0 : Nat) (y0_0 : Int) (y0_1 : Nat) (y0_2 : Int) (y0_3 : Nat) (y0_4 : Option Nat) (y0_5 : List D) (y0_6 : Nat) (y0_7 : List D) : Z5f m (n0 + 1) y0_0 y0_1 y0_2 y0_3 y0_4 y0_5 y0_6 y0_7 =
 (cond (decide (y0_2 < ((y0_3 : Nat) : Int)))
 (if 0 ≤ y0_2 ∧ y0_2 < ((y0_3 : Nat) : Int) then
 (rdI .i64 y0_5[(((Int.toNat y0_2) * 20) + 0)]?).bind fun x3 =>
 cond (x3 == y0_0)
 (if ownB ⟨0, [], false, []⟩ 1 = true ∧ y0_6 = (y0_1 * 1) ∧ fitsRow (y0_1 + 1) 8 ∧ 1 = 1 then
 Zit m n0 y0_0 (y0_1 + 1) y0_2 y0_3 y0_4 y0_5 ((y0_1 + 1) * 1) (y0_7 ++ [(D.v (.int .i64 y0_2))]) y0_2
 else none)
 (Zgz m n0 y0_0 y0_1 y0_2 y0_3 y0_4 y0_5 y0_6 y0_7)
 else none)
 (if (0 + (y0_1 * 1)) ≤ y0_6 then
 some (D.list y0_1 none (cutL y0_6 y0_7 0 (y0_1 * 1)))
 else none)) := by kernel_rfl
noncomputable def Zcg (m : Nat) (a0_0n : Nat) (a0_0c : Option Nat) (a0_0 : List D) (a1 : Int) : Option D :=
 Z5f m m a1 0 (0 : Int) a0_0n a0_0c a0_0 0 []
theorem Zp6 (m : Nat) (a0_0n : Nat) (a0_0c : Option Nat) (a0_0 : List D) (a1 : Int) : funD Tryz.prog Z1j m 4 Z10 Tryz.f44 [(D.agg [(D.list a0_0n a0_0c a0_0)]), (D.v (.int .i64 a1))] = Zcg m a0_0n a0_0c a0_0 a1 := by kernel_rfl
theorem Zr6 : Enters Tryz.prog 44 := ⟨Tryz.f44, Tryz.func44, by kernel_rfl, by kernel_rfl⟩
theorem Zr7 {ds : List D} {d : D} (h : funD Tryz.prog Z1j M 4 Z10 Tryz.f44 ds = some d) : DataSem Tryz.prog 44 ds d := data_sound (H := Z1j) SpOk.nil mixed InlOk.nil Tryz.func44 Zr6 h
noncomputable def Z6f : List D → Option D
  | [.agg [.list a0_0n a0_0c a0_0], .v (.int .i64 a1)] => Zcg M a0_0n a0_0c a0_0 a1
  | _ => none
theorem Zr8 : ∀ ds d, Z6f ds = some d → DataSem Tryz.prog 44 ds d := by
  intro ds d h
  unfold Z6f at h
  split at h
  · exact Zr7 ((Zp6 M _ _ _ _).trans h)
  · cases h

-- ('str', '"vidimus/vidimusref26.Child"')
end Go.Ev
