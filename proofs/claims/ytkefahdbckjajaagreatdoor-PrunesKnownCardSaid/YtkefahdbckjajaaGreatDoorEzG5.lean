/- Functions of the given program in plain form,printed: each with the proof that it is what the evaluator comes to,and that the program function returns what it says. No conditions. -/
import Derived.Test.YtkefahdbckjajaaGreatDoorEzG4
set_option linter.unusedVariables false
set_option maxRecDepth 100000
namespace Go.Ev
open Go Go.Proofs
def Z3x : FnH := ⟨[(1,⟨(bm 14 28),[],(some 1)⟩),(3,⟨(bm 142 28),[],(some 1)⟩)],[]⟩
noncomputable def Z66 : Hints := ⟨[],[],[]⟩
noncomputable def Za6 (m n0 : Nat) (Zz : Int) (Z13 : Nat) (Z18 : Option Nat) (Z1b : List D) (Z14 : Nat) (Z1q : Option Nat) (Z1z : List D) : Option D :=
 Z1e (bm 14 28) 0 1 (codeK Tg Z66.sp ⟨0,[],false,[]⟩ (inlK Tg Z66 m 4) m Z3x (subc [1,0,0,0] (bodyOf Tryz.f75))) n0 ⟨[Jk,(AV.d (D.v (.int .i64 Zz))),(AV.d (D.list Z13 Z18 Z1b)),(AV.ptr 0 0),Jk,Jk,Jk,Jk,Jk,Jk,Jk,Jk,Jk,Jk,Jk,Jk,Jk,Jk,Jk,Jk,Jk,Jk,Jk,Jk,Jk,Jk,Jk,Jk],[(Blk.d 1 [(D.list Z14 Z1q Z1z)])]⟩
  (contK Tg Z66.sp ⟨0,[],false,[]⟩ (inlK Tg Z66 m 4) m Z3x (endK Tg Tryz.f75 (fun v L => viewK L 8 v some)) [.block 0,.code (subc [1,1] (bodyOf Tryz.f75))])
noncomputable def Zkk (m n0 n1 : Nat) (Z43 : Int) (Z76 : Nat) (Z56 : Option Nat) (Z61 : List D) (Z5a : Int) (Z5r : Nat) (Z4r : Option Nat) (Z5f : List D) : Option D :=
 Z1e (bm 142 28) 0 1 (codeK Tg Z66.sp ⟨0,[],false,[]⟩ (inlK Tg Z66 m 4) m Z3x (subc [1,0,0,0,1,0,0,1,0,0] (bodyOf Tryz.f75))) n1 ⟨[Jk,(AV.d (D.v (.int .i64 Z43))),(AV.d (D.list Z76 Z56 Z61)),(AV.ptr 0 0),Jk,Jk,Jk,(AV.d (D.v (.int .i64 Z5a))),Jk,Jk,Jk,Jk,Jk,Jk,Jk,Jk,Jk,Jk,Jk,Jk,Jk,Jk,Jk,Jk,Jk,Jk,Jk,Jk],[(Blk.d 1 [(D.list Z5r Z4r Z5f)])]⟩
  (contK Tg Z66.sp ⟨0,[],false,[]⟩ (inlK Tg Z66 m 4) m Z3x (endK Tg Tryz.f75 (fun v L => viewK L 8 v some)) [.block 2,.code (subc [1,0,0,0,1,0,1] (bodyOf Tryz.f75)),.block 1,.loop (bm 14 28) 1 (subc [1,0,0,0] (bodyOf Tryz.f75)) n0,.block 0,.code (subc [1,1] (bodyOf Tryz.f75))])
theorem Z16f (m n0 n1 : Nat) (Z43 : Int) (Z76 : Nat) (Z56 : Option Nat) (Z61 : List D) (Z5a : Int) (Z5r : Nat) (Z4r : Option Nat) (Z5f : List D) : Zkk m n0 (n1 + 1) Z43 Z76 Z56 Z61 Z5a Z5r Z4r Z5f =
 (cond (decide (Z5a < (Z76 : Int)))
 (if 0 ≤ Z5a ∧ Z5a < (Z76 : Int) then
 (rdI .i64 Z61[((Int.toNat Z5a) * 1)]?).bind fun x7 =>
 cond (x7 == Z43)
 (some (D.v (.int .i64 (1 : Int))))
 (Zkk m n0 n1 Z43 Z76 Z56 Z61 (IntKind.wrap .i64 (Z5a + (1 : Int))) Z5r Z4r Z5f)
 else none)
 (if 0 ≤ Z43 ∧ Z43 < (Z5r : Int) then
 (rdI .i64 Z5f[(((Int.toNat Z43) * 20) + 0)]?).bind fun x8 =>
 Za6 m n0 x8 Z76 Z56 Z61 Z5r Z4r Z5f
 else none)) := by kernel_rfl
theorem Zu4 (m n0 : Nat) (Zz : Int) (Z13 : Nat) (Z18 : Option Nat) (Z1b : List D) (Z14 : Nat) (Z1q : Option Nat) (Z1z : List D) : Za6 m (n0 + 1) Zz Z13 Z18 Z1b Z14 Z1q Z1z =
 (cond (decide (Zz ≥ (0 : Int)))
 (Zkk m n0 m Zz Z13 Z18 Z1b (0 : Int) Z14 Z1q Z1z)
 (some zI)) := by kernel_rfl
noncomputable def Zpk (m : Nat) (a0_0n : Nat) (a0_0c : Option Nat) (a0_0 : List D) (a1 : Int) (a2n : Nat) (a2c : Option Nat) (a2 : List D) : Option D :=
 Za6 m m a1 a2n a2c a2 a0_0n a0_0c a0_0
theorem Z18a (m : Nat) (a0_0n : Nat) (a0_0c : Option Nat) (a0_0 : List D) (a1 : Int) (a2n : Nat) (a2c : Option Nat) (a2 : List D) : funD Tg Z66 m 4 Z3x Tryz.f75 [(D.agg [(D.list a0_0n a0_0c a0_0)]),(D.v (.int .i64 a1)),(D.list a2n a2c a2)] = Zpk m a0_0n a0_0c a0_0 a1 a2n a2c a2 := by kernel_rfl
theorem Z1ct : Enters Tg 75 := ⟨Tryz.f75,Tryz.func75,by kernel_rfl,by kernel_rfl⟩
theorem Z1cu {ds : List D} {d : D} (h : funD Tg Z66 M 4 Z3x Tryz.f75 ds = some d) : DataSem Tg 75 ds d := Zf (H := Z66) SpOk.nil mixed InlOk.nil Tryz.func75 Z1ct h
noncomputable def Zc4 : List D → Option D
 | [.agg [.list a0_0n a0_0c a0_0],.v (.int .i64 a1),.list a2n a2c a2] => Zpk M a0_0n a0_0c a0_0 a1 a2n a2c a2
 | _ => none
theorem Z1cv : ∀ ds d,Zc4 ds = some d → DataSem Tg 75 ds d := by
 intro ds d h
 unfold Zc4 at h
 split at h
 ·exact Z1cu ((Z18a M _ _ _ _ _ _ _).trans h)
 ·cases h
def Z1j : FnH := ⟨[(3,⟨(bm 118 51),[(1002000,20)],(some 4)⟩),(9,⟨(bm 1014 51),[],(some 5)⟩)],[(4,⟨(bm 118 51),[],(some 6)⟩)]⟩
noncomputable def Z2d : Hints := ⟨[(75,Zc4)],[],[]⟩
noncomputable def Z8m (m n0 : Nat) (Zz : Nat) (Z13 : Option Nat) (Z18 : List D) (Z1b : Int) (Z14 : Nat) (Z1q : Option Nat) (Z1z : List D) (Z32 : Nat) (Z4e : Nat) (Zfw : List D) : Option D :=
 Z1e (bm 118 51) 0 4 (codeK Tg Z2d.sp ⟨0,[],false,[]⟩ (inlK Tg Z2d m 4) m Z1j (subc [1,1,0,1,0,0] (bodyOf Tryz.f28))) n0 ⟨[Jk,(AV.d (D.list Zz Z13 Z18)),(AV.ptr 0 0),Jk,(AV.ptr 1 0),(AV.ptr 2 0),(AV.d (D.v (.int .i64 Z1b))),Jk,Jk,Jk,Jk,Jk,Jk,Jk,Jk,Jk,Jk,Jk,Jk,Jk,Jk,Jk,Jk,Jk,Jk,Jk,Jk,Jk,Jk,Jk,Jk,Jk,Jk,Jk,Jk,Jk,Jk,Jk,Jk,Jk,Jk,Jk,Jk,Jk,Jk,Jk,Jk,Jk,Jk,Jk,Jk],[(Blk.d 1 [(D.list Z14 Z1q Z1z)]),(Blk.d 1 [(D.list 0 (some 0) [])]),(Blk.a 1 [(AV.sl 3 0 Z32 none 20)]),(Blk.d Z4e Zfw)]⟩
  (contK Tg Z2d.sp ⟨0,[],false,[]⟩ (inlK Tg Z2d m 4) m Z1j (endK Tg Tryz.f28 (fun v L => viewK L 8 v some)) [.block 0,.code (subc [1,1,1] (bodyOf Tryz.f28))])
noncomputable def Zu5 (m n0 : Nat) (Z2y : Nat) (Z4c : Option Nat) (Z40 : List D) (Z3k : Int) (Z2j : Nat) (Z6i : Option Nat) (Z7k : List D) (Zjw : Nat) (Zns : Nat) (Z15t : List D) : Option D :=
 cutK m (codeK Tg Z2d.sp ⟨0,[],false,[]⟩ (inlK Tg Z2d m 4) m Z1j (subc [1,1,0,1,0,0,1,1] (bodyOf Tryz.f28)) ⟨[Jk,(AV.d (D.list Z2y Z4c Z40)),(AV.ptr 0 0),Jk,(AV.ptr 1 0),(AV.ptr 2 0),(AV.d (D.v (.int .i64 Z3k))),Jk,Jk,Jk,Jk,Jk,Jk,Jk,Jk,Jk,Jk,Jk,Jk,Jk,Jk,Jk,Jk,Jk,Jk,Jk,Jk,Jk,Jk,Jk,Jk,Jk,Jk,Jk,Jk,Jk,Jk,Jk,Jk,Jk,Jk,Jk,Jk,Jk,Jk,Jk,Jk,Jk,Jk,Jk,Jk],[(Blk.d 1 [(D.list Z2j Z6i Z7k)]),(Blk.d 1 [(D.list 0 (some 0) [])]),(Blk.a 1 [(AV.sl 3 0 Zjw none 20)]),(Blk.d Zns Z15t)]⟩
  (contK Tg Z2d.sp ⟨0,[],false,[]⟩ (inlK Tg Z2d m 4) m Z1j (endK Tg Tryz.f28 (fun v L => viewK L 8 v some)) [.loop (bm 118 51) 4 (subc [1,1,0,1,0,0] (bodyOf Tryz.f28)) n0,.block 0,.code (subc [1,1,1] (bodyOf Tryz.f28))]))
theorem Z129 (m n0 : Nat) (Z2y : Nat) (Z4c : Option Nat) (Z40 : List D) (Z3k : Int) (Z2j : Nat) (Z6i : Option Nat) (Z7k : List D) (Zjw : Nat) (Zns : Nat) (Z15t : List D) : Zu5 m n0 Z2y Z4c Z40 Z3k Z2j Z6i Z7k Zjw Zns Z15t =
 (Z8m m n0 Z2y Z4c Z40 (IntKind.wrap .i64 (Z3k + (1 : Int))) Z2j Z6i Z7k Zjw Zns Z15t) := (Z1y m _).trans (by kernel_rfl)
noncomputable def Zhh (m n0 n1 : Nat) (Z43 : Nat) (Z76 : Option Nat) (Z56 : List D) (Z61 : Int) (Z5a : Int) (Z5r : Int) (Z4r : Nat) (Z5f : Option Nat) (Z5s : List D) (Z5t : Nat) (Z42 : Nat) (Z3z : List D) (Z3l : List D) : Option D :=
 Z1e (bm 1014 51) 0 5 (codeK Tg Z2d.sp ⟨0,[],false,[]⟩ (inlK Tg Z2d m 4) m Z1j (subc [1,1,0,1,0,0,1,0,0,1,1,1,0,1,0,0] (bodyOf Tryz.f28))) n1 ⟨[Jk,(AV.d (D.list Z43 Z76 Z56)),(AV.ptr 0 0),Jk,(AV.ptr 1 0),(AV.ptr 2 0),(AV.d (D.v (.int .i64 Z61))),(AV.ptr 4 0),(AV.d (D.v (.int .i64 Z5a))),(AV.d (D.v (.int .i64 Z5r))),Jk,Jk,Jk,Jk,Jk,Jk,Jk,Jk,Jk,Jk,Jk,Jk,Jk,Jk,Jk,Jk,Jk,Jk,Jk,Jk,Jk,Jk,Jk,Jk,Jk,Jk,Jk,Jk,Jk,Jk,Jk,Jk,Jk,Jk,Jk,Jk,Jk,Jk,Jk,Jk,Jk],[(Blk.d 1 [(D.list Z4r Z5f Z5s)]),(Blk.d 1 [(D.list 0 (some 0) [])]),(Blk.a 1 [(AV.sl 3 0 Z5t none 20)]),(Blk.d Z42 Z3z),(Blk.d 20 Z3l)]⟩
  (contK Tg Z2d.sp ⟨0,[],false,[]⟩ (inlK Tg Z2d m 4) m Z1j (endK Tg Tryz.f28 (fun v L => viewK L 8 v some)) [.block 2,.code (subc [1,1,0,1,0,0,1,0,0,1,1,1,1] (bodyOf Tryz.f28)),.block 1,.code (subc [1,1,0,1,0,0,1,1] (bodyOf Tryz.f28)),.loop (bm 118 51) 4 (subc [1,1,0,1,0,0] (bodyOf Tryz.f28)) n0,.block 0,.code (subc [1,1,1] (bodyOf Tryz.f28))])
noncomputable def Zqw (m n0 : Nat) (Z9n : Nat) (Zbt : Option Nat) (Zbv : List D) (Zcj : Int) (Z8v : Nat) (Zaj : Option Nat) (Zha : List D) (Zla : Nat) (Zx2 : Nat) (Zwp : List D) (Zo6 : List D) (Zvd : List D) : Option D :=
 cutK m (codeK Tg Z2d.sp ⟨0,[],false,[]⟩ (inlK Tg Z2d m 4) m Z1j (subc [1,1,0,1,0,0,1,1] (bodyOf Tryz.f28)) ⟨[Jk,(AV.d (D.list Z9n Zbt Zbv)),(AV.ptr 0 0),Jk,(AV.ptr 1 0),(AV.ptr 2 0),(AV.d (D.v (.int .i64 Zcj))),Jk,Jk,Jk,Jk,Jk,Jk,Jk,Jk,Jk,Jk,Jk,Jk,Jk,Jk,Jk,Jk,Jk,Jk,Jk,Jk,Jk,Jk,Jk,Jk,Jk,Jk,Jk,Jk,Jk,Jk,Jk,Jk,Jk,Jk,Jk,Jk,Jk,Jk,Jk,Jk,Jk,Jk,Jk,Jk],[(Blk.d 1 [(D.list Z8v Zaj Zha)]),(Blk.d 1 [(D.list 0 (some 0) [])]),(Blk.a 1 [(AV.sl 3 0 Zla none 20)]),(Blk.d Zx2 Zwp),(Blk.d 20 Zo6),(Blk.d 20 Zvd)]⟩
  (contK Tg Z2d.sp ⟨0,[],false,[]⟩ (inlK Tg Z2d m 4) m Z1j (endK Tg Tryz.f28 (fun v L => viewK L 8 v some)) [.loop (bm 118 51) 4 (subc [1,1,0,1,0,0] (bodyOf Tryz.f28)) n0,.block 0,.code (subc [1,1,1] (bodyOf Tryz.f28))]))
theorem Zyw (m n0 : Nat) (Z9n : Nat) (Zbt : Option Nat) (Zbv : List D) (Zcj : Int) (Z8v : Nat) (Zaj : Option Nat) (Zha : List D) (Zla : Nat) (Zx2 : Nat) (Zwp : List D) (Zo6 : List D) (Zvd : List D) : Zqw m n0 Z9n Zbt Zbv Zcj Z8v Zaj Zha Zla Zx2 Zwp Zo6 Zvd =
 (Z8m m n0 Z9n Zbt Zbv (IntKind.wrap .i64 (Zcj + (1 : Int))) Z8v Zaj Zha Zla Zx2 Zwp) := (Z1y m _).trans (by kernel_rfl)
theorem Z14e (m n0 n1 : Nat) (Z43 : Nat) (Z76 : Option Nat) (Z56 : List D) (Z61 : Int) (Z5a : Int) (Z5r : Int) (Z4r : Nat) (Z5f : Option Nat) (Z5s : List D) (Z5t : Nat) (Z42 : Nat) (Z3z : List D) (Z3l : List D) : Zhh m n0 (n1 + 1) Z43 Z76 Z56 Z61 Z5a Z5r Z4r Z5f Z5s Z5t Z42 Z3z Z3l =
 ((rdI .i64 Z3l[0]?).bind fun x33 =>
 cond (decide (Z5r < x33))
 ((Zc4 [(D.agg [(D.list Z4r Z5f Z5s)]),(D.v (.int .i64 Z5r)),(D.list Z43 Z76 Z56)]).bind fun d34 =>
 (rdI .i64 (some d34)).bind fun x35 =>
 Zhh m n0 n1 Z43 Z76 Z56 Z61 (IntKind.wrap .i64 (Z5a + x35)) (IntKind.wrap .i64 (Z5r + (1 : Int))) Z4r Z5f Z5s Z5t Z42 Z3z Z3l)
 ((rdI .i64 Z3l[0]?).bind fun x36 =>
 if (List.length (List.set Z3l 0 (D.v (.int .i64 (IntKind.wrap .i64 (x36 - Z5a)))))) = 20 then
 if ownB ⟨0,[],false,[]⟩ 3 = true ∧ Z42 = (Z5t * 20) ∧ fitsRow (Z5t + 1) 128 ∧ (List.length (List.set Z3l 0 (D.v (.int .i64 (IntKind.wrap .i64 (x36 - Z5a)))))) = 20 then
 Zqw m n0 Z43 Z76 Z56 Z61 Z4r Z5f Z5s (Z5t + 1) ((Z5t + 1) * 20) (Z3z ++ (List.set Z3l 0 (D.v (.int .i64 (IntKind.wrap .i64 (x36 - Z5a)))))) (List.set Z3l 0 (D.v (.int .i64 (IntKind.wrap .i64 (x36 - Z5a))))) (List.set Z3l 0 (D.v (.int .i64 (IntKind.wrap .i64 (x36 - Z5a)))))
 else none
 else none)) := by kernel_rfl
theorem Z14f (m n0 : Nat) (Zz : Nat) (Z13 : Option Nat) (Z18 : List D) (Z1b : Int) (Z14 : Nat) (Z1q : Option Nat) (Z1z : List D) (Z32 : Nat) (Z4e : Nat) (Zfw : List D) : Z8m m (n0 + 1) Zz Z13 Z18 Z1b Z14 Z1q Z1z Z32 Z4e Zfw =
 (cond (decide (Z1b < (Z14 : Int)))
 ((Zc4 [(D.agg [(D.list Z14 Z1q Z1z)]),(D.v (.int .i64 Z1b)),(D.list Zz Z13 Z18)]).bind fun d25 =>
 (rdI .i64 (some d25)).bind fun x26 =>
 cond (x26 == (1 : Int))
 (Zu5 m n0 Zz Z13 Z18 Z1b Z14 Z1q Z1z Z32 Z4e Zfw)
 (if 0 ≤ Z1b ∧ Z1b < (Z14 : Int) then
 if (((Int.toNat Z1b) * 20) + 20) ≤ (List.length Z1z) then
 if (List.length ((List.drop ((Int.toNat Z1b) * 20) Z1z).take 20)) = 20 then
 Zhh m n0 m Zz Z13 Z18 Z1b (0 : Int) (0 : Int) Z14 Z1q Z1z Z32 Z4e Zfw ((List.drop ((Int.toNat Z1b) * 20) Z1z).take 20)
 else none
 else none
 else none))
 (if (0 + (Z32 * 20)) ≤ Z4e then
 some (D.agg [(D.list Z32 none (cutL Z4e Zfw 0 (Z32 * 20)))])
 else none)) := by kernel_rfl
noncomputable def Zmg (m : Nat) (a0_0n : Nat) (a0_0c : Option Nat) (a0_0 : List D) (a1n : Nat) (a1c : Option Nat) (a1 : List D) : Option D :=
 Z8m m m a1n a1c a1 (0 : Int) a0_0n a0_0c a0_0 0 0 []
theorem Z16g (m : Nat) (a0_0n : Nat) (a0_0c : Option Nat) (a0_0 : List D) (a1n : Nat) (a1c : Option Nat) (a1 : List D) : funD Tg Z2d m 4 Z1j Tryz.f28 [(D.agg [(D.list a0_0n a0_0c a0_0)]),(D.list a1n a1c a1)] = Zmg m a0_0n a0_0c a0_0 a1n a1c a1 := by kernel_rfl
theorem Z1bb : Enters Tg 28 := ⟨Tryz.f28,Tryz.func28,by kernel_rfl,by kernel_rfl⟩
theorem Z1bc {ds : List D} {d : D} (h : funD Tg Z2d M 4 Z1j Tryz.f28 ds = some d) : DataSem Tg 28 ds d := Zf (H := Z2d) (SpOk.cons Z1cv SpOk.nil) mixed InlOk.nil Tryz.func28 Z1bb h
noncomputable def Z50 : List D → Option D
 | [.agg [.list a0_0n a0_0c a0_0],.list a1n a1c a1] => Zmg M a0_0n a0_0c a0_0 a1n a1c a1
 | _ => none
theorem Zyx : ∀ ds d,Z50 ds = some d → DataSem Tg 28 ds d := by
 intro ds d h
 unfold Z50 at h
 split at h
 ·exact Z1bc ((Z16g M _ _ _ _ _ _).trans h)
 ·cases h
def Z4l : FnH := ⟨[(2,⟨(bm 38 36),[],(some 1)⟩)],[(3,⟨(bm 38 36),[],(some 1)⟩)]⟩
noncomputable def Z7a : Hints := ⟨[],[],[]⟩
noncomputable def Zc5 (m n0 : Nat) (Zz : Int) (Z13 : Nat) (Z18 : Option Nat) (Z1b : List D) (Z14 : Nat) (Z1q : Option Nat) (Z1z : List D) : Option D :=
 Z1e (bm 38 36) 0 1 (codeK Tg Z7a.sp ⟨0,[],false,[]⟩ (inlK Tg Z7a m 4) m Z4l (subc [1,1,0,0,0] (bodyOf Tryz.f33))) n0 ⟨[Jk,(AV.d (D.v (.int .i64 Zz))),(AV.ptr 0 0),Jk,Jk,(AV.d (D.list Z13 Z18 Z1b)),Jk,Jk,Jk,Jk,Jk,Jk,Jk,Jk,Jk,Jk,Jk,Jk,Jk,Jk,Jk,Jk,Jk,Jk,Jk,Jk,Jk,Jk,Jk,Jk,Jk,Jk,Jk,Jk,Jk,Jk],[(Blk.d 1 [(D.list Z14 Z1q Z1z)])]⟩
  (contK Tg Z7a.sp ⟨0,[],false,[]⟩ (inlK Tg Z7a m 4) m Z4l (endK Tg Tryz.f33 (fun v L => viewK L 8 v some)) [.block 0,.code (subc [1,1,1] (bodyOf Tryz.f33))])
noncomputable def Zkl (m n0 : Nat) (Z2y : Int) (Z4c : Nat) (Z40 : Option Nat) (Z3k : List D) (Z2j : Nat) (Z6i : Option Nat) (Z7k : List D) : Option D :=
 cutK m (codeK Tg Z7a.sp ⟨0,[],false,[]⟩ (inlK Tg Z7a m 4) m Z4l (subc [1,1,0,0,0,1] (bodyOf Tryz.f33)) ⟨[Jk,(AV.d (D.v (.int .i64 Z2y))),(AV.ptr 0 0),Jk,Jk,(AV.d (D.list Z4c Z40 Z3k)),Jk,Jk,Jk,Jk,Jk,Jk,Jk,Jk,Jk,Jk,Jk,Jk,Jk,Jk,Jk,Jk,Jk,Jk,Jk,Jk,Jk,Jk,Jk,Jk,Jk,Jk,Jk,Jk,Jk,Jk],[(Blk.d 1 [(D.list Z2j Z6i Z7k)])]⟩
  (contK Tg Z7a.sp ⟨0,[],false,[]⟩ (inlK Tg Z7a m 4) m Z4l (endK Tg Tryz.f33 (fun v L => viewK L 8 v some)) [.loop (bm 38 36) 1 (subc [1,1,0,0,0] (bodyOf Tryz.f33)) n0,.block 0,.code (subc [1,1,1] (bodyOf Tryz.f33))]))
theorem Zu6 (m n0 : Nat) (Z2y : Int) (Z4c : Nat) (Z40 : Option Nat) (Z3k : List D) (Z2j : Nat) (Z6i : Option Nat) (Z7k : List D) : Zkl m n0 Z2y Z4c Z40 Z3k Z2j Z6i Z7k =
 (if 0 ≤ Z2y ∧ Z2y < (Z2j : Int) then
 if ((((Int.toNat Z2y) * 20) + 1) + 17) ≤ (List.length Z7k) then
 if (List.length ((List.drop (((Int.toNat Z2y) * 20) + 1) Z7k).take 17)) = 17 then
 if (List.length Z3k) = (Z4c * 17) then
 if (1 + Z4c) ≤ 1 then
 (if (0 + ((1 + Z4c) * 17)) ≤ 17 ∧ (List.length Z3k) = (Z4c * 17) then
 if 0 ≤ Z2y ∧ Z2y < (Z2j : Int) then
 (rdI .i64 Z7k[(((Int.toNat Z2y) * 20) + 0)]?).bind fun x6 =>
 if (0 + ((1 + Z4c) * 17)) ≤ 17 then
 Zc5 m n0 x6 (1 + Z4c) (some 1) (cutL 17 (List.take 17 ((List.drop (((Int.toNat Z2y) * 20) + 1) Z7k).take 17) ++ (Z3k ++ List.drop (0 + ((1 + Z4c) * 17)) ((List.drop (((Int.toNat Z2y) * 20) + 1) Z7k).take 17))) 0 ((1 + Z4c) * 17)) Z2j Z6i Z7k
 else none
 else none
 else none)
 else
 (if fitsRow (1 + Z4c) 68 ∧ (List.length Z3k) = (Z4c * 17) then
 if 0 ≤ Z2y ∧ Z2y < (Z2j : Int) then
 (rdI .i64 Z7k[(((Int.toNat Z2y) * 20) + 0)]?).bind fun x7 =>
 if (0 + ((1 + Z4c) * 17)) ≤ ((1 + Z4c) * 17) then
 Zc5 m n0 x7 (1 + Z4c) none (cutL ((1 + Z4c) * 17) (((List.drop (((Int.toNat Z2y) * 20) + 1) Z7k).take 17) ++ Z3k) 0 ((1 + Z4c) * 17)) Z2j Z6i Z7k
 else none
 else none
 else none)
 else none
 else none
 else none
 else none) := (Z1y m _).trans (by kernel_rfl)
theorem Zwm (m n0 : Nat) (Zz : Int) (Z13 : Nat) (Z18 : Option Nat) (Z1b : List D) (Z14 : Nat) (Z1q : Option Nat) (Z1z : List D) : Zc5 m (n0 + 1) Zz Z13 Z18 Z1b Z14 Z1q Z1z =
 (cond (decide (Zz ≥ (0 : Int)))
 (cond (decide (Zz < (Z14 : Int)))
 (cond (decide ((Z13 : Int) < (100 : Int)))
 (Zkl m n0 Zz Z13 Z18 Z1b Z14 Z1q Z1z)
 (some (D.list Z13 Z18 Z1b)))
 (some (D.list Z13 Z18 Z1b)))
 (some (D.list Z13 Z18 Z1b))) := by kernel_rfl
noncomputable def Z171 (m : Nat) (a0_0n : Nat) (a0_0c : Option Nat) (a0_0 : List D) (a1 : Int) : Option D :=
 Zc5 m m a1 0 (some 0) [] a0_0n a0_0c a0_0
theorem Z1bd (m : Nat) (a0_0n : Nat) (a0_0c : Option Nat) (a0_0 : List D) (a1 : Int) : funD Tg Z7a m 4 Z4l Tryz.f33 [(D.agg [(D.list a0_0n a0_0c a0_0)]),(D.v (.int .i64 a1))] = Z171 m a0_0n a0_0c a0_0 a1 := by kernel_rfl
theorem Z1g1 : Enters Tg 33 := ⟨Tryz.f33,Tryz.func33,by kernel_rfl,by kernel_rfl⟩
theorem Z1g2 {ds : List D} {d : D} (h : funD Tg Z7a M 4 Z4l Tryz.f33 ds = some d) : DataSem Tg 33 ds d := Zf (H := Z7a) SpOk.nil mixed InlOk.nil Tryz.func33 Z1g1 h
noncomputable def Z37 : List D → Option D
 | [.agg [.list a0_0n a0_0c a0_0],.v (.int .i64 a1)] => Z171 M a0_0n a0_0c a0_0 a1
 | _ => none
theorem Zvi : ∀ ds d,Z37 ds = some d → DataSem Tg 33 ds d := by
 intro ds d h
 unfold Z37 at h
 split at h
 ·exact Z1g2 ((Z1bd M _ _ _ _).trans h)
 ·cases h
def Z58 : FnH := ⟨[(4,⟨(bm 35 26),[],(some 0)⟩)],[]⟩
noncomputable def Z87 : Hints := ⟨[],[],[]⟩
noncomputable def Zfp (m n0 : Nat) (Zz : Nat) (Z13 : Option Nat) (Z18 : List D) (Z1b : Nat) (Z14 : Option Nat) (Z1q : List D) (Z1z : Int) : Option D :=
 Z1e (bm 35 26) 0 0 (codeK Tg Z87.sp ⟨0,[],false,[]⟩ (inlK Tg Z87 m 4) m Z58 (subc [1,1,0,1,0,0] (bodyOf Tryz.f45))) n0 ⟨[(AV.d (D.list Zz Z13 Z18)),(AV.d (D.list Z1b Z14 Z1q)),Jk,Jk,Jk,(AV.d (D.v (.int .i64 Z1z))),Jk,Jk,Jk,Jk,Jk,Jk,Jk,Jk,Jk,Jk,Jk,Jk,Jk,Jk,Jk,Jk,Jk,Jk,Jk,Jk],[]⟩
  (contK Tg Z87.sp ⟨0,[],false,[]⟩ (inlK Tg Z87 m 4) m Z58 (endK Tg Tryz.f45 (fun v L => viewK L 8 v some)) [.block 0,.code (subc [1,1,1] (bodyOf Tryz.f45))])
theorem Z12a (m n0 : Nat) (Zz : Nat) (Z13 : Option Nat) (Z18 : List D) (Z1b : Nat) (Z14 : Option Nat) (Z1q : List D) (Z1z : Int) : Zfp m (n0 + 1) Zz Z13 Z18 Z1b Z14 Z1q Z1z =
 (cond (decide (Z1z < (Zz : Int)))
 (if 0 ≤ Z1z ∧ Z1z < (Zz : Int) then
 if (((Int.toNat Z1z) * 17) + 17) ≤ (List.length Z18) then
 if 0 ≤ Z1z ∧ Z1z < (Z1b : Int) then
 if (((Int.toNat Z1z) * 17) + 17) ≤ (List.length Z1q) then
 (cellsEq [.int,.int,.int,.int,.int,.int,.int,.int,.int,.int,.int,.int,.int,.int,.int,.int,.int] ((List.drop ((Int.toNat Z1z) * 17) Z18).take 17) ((List.drop ((Int.toNat Z1z) * 17) Z1q).take 17)).bind fun b3 =>
 cond (!b3)
 (some zI)
 (Zfp m n0 Zz Z13 Z18 Z1b Z14 Z1q (IntKind.wrap .i64 (Z1z + (1 : Int))))
 else none
 else none
 else none
 else none)
 (some (D.v (.int .i64 (1 : Int))))) := by kernel_rfl
noncomputable def Zkm (m : Nat) (a0n : Nat) (a0c : Option Nat) (a0 : List D) (a1n : Nat) (a1c : Option Nat) (a1 : List D) : Option D :=
 cond ((a0n : Int) != (a1n : Int))
 (some zI)
 (Zfp m m a0n a0c a0 a1n a1c a1 (0 : Int))
theorem Z14g (m : Nat) (a0n : Nat) (a0c : Option Nat) (a0 : List D) (a1n : Nat) (a1c : Option Nat) (a1 : List D) : funD Tg Z87 m 4 Z58 Tryz.f45 [(D.list a0n a0c a0),(D.list a1n a1c a1)] = Zkm m a0n a0c a0 a1n a1c a1 := by kernel_rfl
theorem Z18b : Enters Tg 45 := ⟨Tryz.f45,Tryz.func45,by kernel_rfl,by kernel_rfl⟩
theorem Z18c {ds : List D} {d : D} (h : funD Tg Z87 M 4 Z58 Tryz.f45 ds = some d) : DataSem Tg 45 ds d := Zf (H := Z87) SpOk.nil mixed InlOk.nil Tryz.func45 Z18b h
noncomputable def Z7m : List D → Option D
 | [.list a0n a0c a0,.list a1n a1c a1] => Zkm M a0n a0c a0 a1n a1c a1
 | _ => none
theorem Zwn : ∀ ds d,Z7m ds = some d → DataSem Tg 45 ds d := by
 intro ds d h
 unfold Z7m at h
 split at h
 ·exact Z18c ((Z14g M _ _ _ _ _ _).trans h)
 ·cases h
def Z6t : FnH := ⟨[(2,⟨(bm 38 20),[],(some 1)⟩)],[]⟩
noncomputable def Zez : Hints := ⟨[(33,Z37),(45,Z7m)],[],[]⟩
noncomputable def Zmh (m n0 : Nat) (Zz : Nat) (Z13 : Option Nat) (Z18 : List D) (Z1b : Int) (Z14 : Nat) (Z1q : Option Nat) (Z1z : List D) : Option D :=
 Z1e (bm 38 20) 0 1 (codeK Tg Zez.sp ⟨0,[],false,[]⟩ (inlK Tg Zez m 4) m Z6t (subc [1,0,1,0,0] (bodyOf Tryz.f32))) n0 ⟨[Jk,(AV.d (D.list Zz Z13 Z18)),(AV.ptr 0 0),Jk,Jk,(AV.d (D.v (.int .i64 Z1b))),Jk,Jk,Jk,Jk,Jk,Jk,Jk,Jk,Jk,Jk,Jk,Jk,Jk,Jk],[(Blk.d 1 [(D.list Z14 Z1q Z1z)])]⟩
  (contK Tg Zez.sp ⟨0,[],false,[]⟩ (inlK Tg Zez m 4) m Z6t (endK Tg Tryz.f32 (fun v L => viewK L 8 v some)) [.block 0,.code (subc [1,1] (bodyOf Tryz.f32))])
theorem Z18d (m n0 : Nat) (Zz : Nat) (Z13 : Option Nat) (Z18 : List D) (Z1b : Int) (Z14 : Nat) (Z1q : Option Nat) (Z1z : List D) : Zmh m (n0 + 1) Zz Z13 Z18 Z1b Z14 Z1q Z1z =
 (cond (decide (Z1b < (Z14 : Int)))
 ((Z37 [(D.agg [(D.list Z14 Z1q Z1z)]),(D.v (.int .i64 Z1b))]).bind fun d9 =>
 (rdL (some d9)).bind fun q10 =>
 (Z7m [(D.list q10.n q10.cap q10.cs),(D.list Zz Z13 Z18)]).bind fun d11 =>
 (rdI .i64 (some d11)).bind fun x12 =>
 cond (x12 == (1 : Int))
 (some (D.v (.int .i64 Z1b)))
 (Zmh m n0 Zz Z13 Z18 (IntKind.wrap .i64 (Z1b + (1 : Int))) Z14 Z1q Z1z))
 (some (D.v (.int .i64 (-1 : Int))))) := by kernel_rfl
noncomputable def Zsb (m : Nat) (a0_0n : Nat) (a0_0c : Option Nat) (a0_0 : List D) (a1n : Nat) (a1c : Option Nat) (a1 : List D) : Option D :=
 Zmh m m a1n a1c a1 (0 : Int) a0_0n a0_0c a0_0
theorem Z1be (m : Nat) (a0_0n : Nat) (a0_0c : Option Nat) (a0_0 : List D) (a1n : Nat) (a1c : Option Nat) (a1 : List D) : funD Tg Zez m 4 Z6t Tryz.f32 [(D.agg [(D.list a0_0n a0_0c a0_0)]),(D.list a1n a1c a1)] = Zsb m a0_0n a0_0c a0_0 a1n a1c a1 := by kernel_rfl
theorem Z1g3 : Enters Tg 32 := ⟨Tryz.f32,Tryz.func32,by kernel_rfl,by kernel_rfl⟩
theorem Z1g4 {ds : List D} {d : D} (h : funD Tg Zez M 4 Z6t Tryz.f32 ds = some d) : DataSem Tg 32 ds d := Zf (H := Zez) (SpOk.cons Zvi (SpOk.cons Zwn SpOk.nil)) mixed InlOk.nil Tryz.func32 Z1g3 h
noncomputable def Z3n : List D → Option D
 | [.agg [.list a0_0n a0_0c a0_0],.list a1n a1c a1] => Zsb M a0_0n a0_0c a0_0 a1n a1c a1
 | _ => none
theorem Z14h : ∀ ds d,Z3n ds = some d → DataSem Tg 32 ds d := by
 intro ds d h
 unfold Z3n at h
 split at h
 ·exact Z1g4 ((Z1be M _ _ _ _ _ _).trans h)
 ·cases h
def Z67 : FnH := ⟨[(4,⟨(bm 44 89),[],(some 2)⟩)],[(3,⟨(bm 12 89),[],(some 2)⟩)]⟩
noncomputable def Zb7 : Hints := ⟨[],[],[]⟩
noncomputable def Z18e (m : Nat) (Z2y : List D) (Z4c : List D) : Option D :=
 cutK m (codeK Tg Zb7.sp ⟨0,[],false,[]⟩ (inlK Tg Zb7 m 4) m Z67 (subc [1,1] (bodyOf Tryz.f107)) ⟨[Jk,Jk,(AV.ptr 0 0),(AV.ptr 1 0),Jk,Jk,Jk,Jk,Jk,Jk,Jk,Jk,Jk,Jk,Jk,Jk,Jk,Jk,Jk,Jk,Jk,Jk,Jk,Jk,Jk,Jk,Jk,Jk,Jk,Jk,Jk,Jk,Jk,Jk,Jk,Jk,Jk,Jk,Jk,Jk,Jk,Jk,Jk,Jk,Jk,Jk,Jk,Jk,Jk,Jk,Jk,Jk,Jk,Jk,Jk,Jk,Jk,Jk,Jk,Jk,Jk,Jk,Jk,Jk,Jk,Jk,Jk,Jk,Jk,Jk,Jk,Jk,Jk,Jk,Jk,Jk,Jk,Jk,Jk,Jk,Jk,Jk,Jk,Jk,Jk,Jk,Jk,Jk,Jk],[(Blk.d 27 Z2y),(Blk.d 27 Z4c)]⟩
  (contK Tg Zb7.sp ⟨0,[],false,[]⟩ (inlK Tg Zb7 m 4) m Z67 (endK Tg Tryz.f107 (fun v L => viewK L 8 v some)) []))
noncomputable def Z14i (m : Nat) (a0 : List D) (a1 : List D) : Option D :=
 if (List.length a0) = 27 then
 if (List.length a1) = 27 then
 (rdI .u8 a0[0]?).bind fun x1 =>
 (rdI .u8 a1[0]?).bind fun x2 =>
 cond (x1 != x2)
 (some (D.v (.bool false)))
 ((rdS a0[1]?).bind fun s3 =>
 (rdS a1[1]?).bind fun s4 =>
 cond (!(ByteArray.toList s3 == ByteArray.toList s4))
 (some (D.v (.bool false)))
 ((rdB a0[2]?).bind fun b5 =>
 (rdB a1[2]?).bind fun b6 =>
 cond (!(b5 == b6))
 (some (D.v (.bool false)))
 ((cellsEq [.int,.str] ((List.drop 3 a0).take 2) ((List.drop 3 a1).take 2)).bind fun b7 =>
 cond (!b7)
 (some (D.v (.bool false)))
 ((rdB a0[6]?).bind fun b8 =>
 (rdB a1[6]?).bind fun b9 =>
 cond (!(b8 == b9))
 (some (D.v (.bool false)))
 ((cellsEq [.int,.str] ((List.drop 7 a0).take 2) ((List.drop 7 a1).take 2)).bind fun b10 =>
 cond (!b10)
 (some (D.v (.bool false)))
 ((cellsEq [.int,.int,.int,.int,.int,.int,.int,.int,.int,.int,.int,.int,.int,.int,.int,.int,.int] ((List.drop 9 a0).take 17) ((List.drop 9 a1).take 17)).bind fun b11 =>
 cond (!b11)
 (some (D.v (.bool false)))
 ((rdL a0[26]?).bind fun q12 =>
 if (List.length q12.cs) = q12.n then
 (bytesOf q12.cs).bind fun l13 =>
 (rdL a1[26]?).bind fun q14 =>
 if (List.length q14.cs) = q14.n then
 (bytesOf q14.cs).bind fun l15 =>
 cond (!(ByteArray.toList (ByteArray.mk (List.toArray l13)) == ByteArray.toList (ByteArray.mk (List.toArray l15))))
 (some (D.v (.bool false)))
 ((rdL a0[5]?).bind fun q16 =>
 (rdL a1[5]?).bind fun q17 =>
 cond ((q16.n : Int) != (q17.n : Int))
 (some (D.v (.bool false)))
 (Z18e m a0 a1))
 else none
 else none)))))))
 else none
 else none
theorem Z18f (m : Nat) (a0 : List D) (a1 : List D) : funD Tg Zb7 m 4 Z67 Tryz.f107 [(D.agg a0),(D.agg a1)] = Z14i m a0 a1 := by kernel_rfl
theorem Z1cw : Enters Tg 107 := ⟨Tryz.f107,Tryz.func107,by kernel_rfl,by kernel_rfl⟩
theorem Z1cx {ds : List D} {d : D} (h : funD Tg Zb7 M 4 Z67 Tryz.f107 ds = some d) : DataSem Tg 107 ds d := Zf (H := Zb7) SpOk.nil mixed InlOk.nil Tryz.func107 Z1cw h
noncomputable def Z6u : List D → Option D
 | [.agg a0,.agg a1] => Z14i M a0 a1
 | _ => none
theorem Z1cy : ∀ ds d,Z6u ds = some d → DataSem Tg 107 ds d := by
 intro ds d h
 unfold Z6u at h
 split at h
 ·exact Z1cx ((Z18f M _ _).trans h)
 ·cases h
def Z6v : FnH := ⟨[(4,⟨(bm 35 27),[],(some 0)⟩)],[]⟩
noncomputable def Zf0 : Hints := ⟨[(107,Z6u)],[],[]⟩
noncomputable def Zmi (m n0 : Nat) (Zz : Nat) (Z13 : Option Nat) (Z18 : List D) (Z1b : Nat) (Z14 : Option Nat) (Z1q : List D) (Z1z : Int) : Option D :=
 Z1e (bm 35 27) 0 0 (codeK Tg Zf0.sp ⟨0,[],false,[]⟩ (inlK Tg Zf0 m 4) m Z6v (subc [1,1,0,1,0,0] (bodyOf Tryz.f76))) n0 ⟨[(AV.d (D.list Zz Z13 Z18)),(AV.d (D.list Z1b Z14 Z1q)),Jk,Jk,Jk,(AV.d (D.v (.int .i64 Z1z))),Jk,Jk,Jk,Jk,Jk,Jk,Jk,Jk,Jk,Jk,Jk,Jk,Jk,Jk,Jk,Jk,Jk,Jk,Jk,Jk,Jk],[]⟩
  (contK Tg Zf0.sp ⟨0,[],false,[]⟩ (inlK Tg Zf0 m 4) m Z6v (endK Tg Tryz.f76 (fun v L => viewK L 8 v some)) [.block 0,.code (subc [1,1,1] (bodyOf Tryz.f76))])
theorem Z18g (m n0 : Nat) (Zz : Nat) (Z13 : Option Nat) (Z18 : List D) (Z1b : Nat) (Z14 : Option Nat) (Z1q : List D) (Z1z : Int) : Zmi m (n0 + 1) Zz Z13 Z18 Z1b Z14 Z1q Z1z =
 (cond (decide (Z1z < (Zz : Int)))
 (if 0 ≤ Z1z ∧ Z1z < (Zz : Int) then
 if (((Int.toNat Z1z) * 27) + 27) ≤ (List.length Z18) then
 if 0 ≤ Z1z ∧ Z1z < (Z1b : Int) then
 if (((Int.toNat Z1z) * 27) + 27) ≤ (List.length Z1q) then
 (Z6u [(D.agg ((List.drop ((Int.toNat Z1z) * 27) Z18).take 27)),(D.agg ((List.drop ((Int.toNat Z1z) * 27) Z1q).take 27))]).bind fun d5 =>
 (rdB (some d5)).bind fun b6 =>
 cond (!b6)
 (some (D.v (.bool false)))
 (Zmi m n0 Zz Z13 Z18 Z1b Z14 Z1q (IntKind.wrap .i64 (Z1z + (1 : Int))))
 else none
 else none
 else none
 else none)
 (some (D.v (.bool true)))) := by kernel_rfl
noncomputable def Zsc (m : Nat) (a0n : Nat) (a0c : Option Nat) (a0 : List D) (a1n : Nat) (a1c : Option Nat) (a1 : List D) : Option D :=
 cond ((a0n : Int) != (a1n : Int))
 (some (D.v (.bool false)))
 (Zmi m m a0n a0c a0 a1n a1c a1 (0 : Int))
theorem Z1bf (m : Nat) (a0n : Nat) (a0c : Option Nat) (a0 : List D) (a1n : Nat) (a1c : Option Nat) (a1 : List D) : funD Tg Zf0 m 4 Z6v Tryz.f76 [(D.list a0n a0c a0),(D.list a1n a1c a1)] = Zsc m a0n a0c a0 a1n a1c a1 := by kernel_rfl
theorem Z1g5 : Enters Tg 76 := ⟨Tryz.f76,Tryz.func76,by kernel_rfl,by kernel_rfl⟩
theorem Z1g6 {ds : List D} {d : D} (h : funD Tg Zf0 M 4 Z6v Tryz.f76 ds = some d) : DataSem Tg 76 ds d := Zf (H := Zf0) (SpOk.cons Z1cy SpOk.nil) mixed InlOk.nil Tryz.func76 Z1g5 h
noncomputable def Zkn : List D → Option D
 | [.list a0n a0c a0,.list a1n a1c a1] => Zsc M a0n a0c a0 a1n a1c a1
 | _ => none
theorem Z1g7 : ∀ ds d,Zkn ds = some d → DataSem Tg 76 ds d := by
 intro ds d h
 unfold Zkn at h
 split at h
 ·exact Z1g6 ((Z1bf M _ _ _ _ _ _).trans h)
 ·cases h
def Z4m : FnH := ⟨[(4,⟨(bm 44 80),[],(some 2)⟩)],[(5,⟨(bm 44 80),[],(some 2)⟩)]⟩
noncomputable def Z7b : Hints := ⟨[(45,Z7m),(76,Zkn)],[],[]⟩
noncomputable def Zmj (m n0 : Nat) (Zz : Int) (Z13 : Nat) (Z18 : Option Nat) (Z1b : List D) (Z14 : Nat) (Z1q : Option Nat) (Z1z : List D) : Option D :=
 Z1e (bm 44 80) 0 2 (codeK Tg Z7b.sp ⟨0,[],false,[]⟩ (inlK Tg Z7b m 4) m Z4m (subc [1,1,0,1,0,0] (bodyOf Tryz.f31))) n0 ⟨[Jk,Jk,(AV.ptr 0 0),(AV.ptr 1 0),Jk,(AV.d (D.v (.int .i64 Zz))),Jk,Jk,Jk,Jk,Jk,Jk,Jk,Jk,Jk,Jk,Jk,Jk,Jk,Jk,Jk,Jk,Jk,Jk,Jk,Jk,Jk,Jk,Jk,Jk,Jk,Jk,Jk,Jk,Jk,Jk,Jk,Jk,Jk,Jk,Jk,Jk,Jk,Jk,Jk,Jk,Jk,Jk,Jk,Jk,Jk,Jk,Jk,Jk,Jk,Jk,Jk,Jk,Jk,Jk,Jk,Jk,Jk,Jk,Jk,Jk,Jk,Jk,Jk,Jk,Jk,Jk,Jk,Jk,Jk,Jk,Jk,Jk,Jk,Jk],[(Blk.d 1 [(D.list Z13 Z18 Z1b)]),(Blk.d 1 [(D.list Z14 Z1q Z1z)])]⟩
  (contK Tg Z7b.sp ⟨0,[],false,[]⟩ (inlK Tg Z7b m 4) m Z4m (endK Tg Tryz.f31 (fun v L => viewK L 8 v some)) [.block 0,.code (subc [1,1,1] (bodyOf Tryz.f31))])
noncomputable def Zyy (m n0 : Nat) (Z2y : Int) (Z4c : Nat) (Z40 : Option Nat) (Z3k : List D) (Z2j : Nat) (Z6i : Option Nat) (Z7k : List D) : Option D :=
 cutK m (codeK Tg Z7b.sp ⟨0,[],false,[]⟩ (inlK Tg Z7b m 4) m Z4m (subc [1,1,0,1,0,0,1,1] (bodyOf Tryz.f31)) ⟨[Jk,Jk,(AV.ptr 0 0),(AV.ptr 1 0),Jk,(AV.d (D.v (.int .i64 Z2y))),Jk,Jk,Jk,Jk,Jk,Jk,Jk,Jk,Jk,Jk,Jk,Jk,Jk,Jk,Jk,Jk,Jk,Jk,Jk,Jk,Jk,Jk,Jk,Jk,Jk,Jk,Jk,Jk,Jk,Jk,Jk,Jk,Jk,Jk,Jk,Jk,Jk,Jk,Jk,Jk,Jk,Jk,Jk,Jk,Jk,Jk,Jk,Jk,Jk,Jk,Jk,Jk,Jk,Jk,Jk,Jk,Jk,Jk,Jk,Jk,Jk,Jk,Jk,Jk,Jk,Jk,Jk,Jk,Jk,Jk,Jk,Jk,Jk,Jk],[(Blk.d 1 [(D.list Z4c Z40 Z3k)]),(Blk.d 1 [(D.list Z2j Z6i Z7k)])]⟩
  (contK Tg Z7b.sp ⟨0,[],false,[]⟩ (inlK Tg Z7b m 4) m Z4m (endK Tg Tryz.f31 (fun v L => viewK L 8 v some)) [.loop (bm 44 80) 2 (subc [1,1,0,1,0,0] (bodyOf Tryz.f31)) n0,.block 0,.code (subc [1,1,1] (bodyOf Tryz.f31))]))
theorem Z16h (m n0 : Nat) (Z2y : Int) (Z4c : Nat) (Z40 : Option Nat) (Z3k : List D) (Z2j : Nat) (Z6i : Option Nat) (Z7k : List D) : Zyy m n0 Z2y Z4c Z40 Z3k Z2j Z6i Z7k =
 (Zmj m n0 (IntKind.wrap .i64 (Z2y + (1 : Int))) Z4c Z40 Z3k Z2j Z6i Z7k) := (Z1y m _).trans (by kernel_rfl)
theorem Z18h (m n0 : Nat) (Zz : Int) (Z13 : Nat) (Z18 : Option Nat) (Z1b : List D) (Z14 : Nat) (Z1q : Option Nat) (Z1z : List D) : Zmj m (n0 + 1) Zz Z13 Z18 Z1b Z14 Z1q Z1z =
 (cond (decide (Zz < (Z13 : Int)))
 (if 0 ≤ Zz ∧ Zz < (Z13 : Int) then
 (rdI .i64 Z1b[(((Int.toNat Zz) * 20) + 0)]?).bind fun x23 =>
 if 0 ≤ Zz ∧ Zz < (Z14 : Int) then
 (rdI .i64 Z1z[(((Int.toNat Zz) * 20) + 0)]?).bind fun x24 =>
 cond (x23 != x24)
 (some zI)
 (if 0 ≤ Zz ∧ Zz < (Z13 : Int) then
 if ((((Int.toNat Zz) * 20) + 1) + 17) ≤ (List.length Z1b) then
 if 0 ≤ Zz ∧ Zz < (Z14 : Int) then
 if ((((Int.toNat Zz) * 20) + 1) + 17) ≤ (List.length Z1z) then
 (cellsEq [.int,.int,.int,.int,.int,.int,.int,.int,.int,.int,.int,.int,.int,.int,.int,.int,.int] ((List.drop (((Int.toNat Zz) * 20) + 1) Z1b).take 17) ((List.drop (((Int.toNat Zz) * 20) + 1) Z1z).take 17)).bind fun b25 =>
 cond (!b25)
 (some zI)
 (if 0 ≤ Zz ∧ Zz < (Z13 : Int) then
 (rdL Z1b[(((Int.toNat Zz) * 20) + 18)]?).bind fun q26 =>
 if 0 ≤ Zz ∧ Zz < (Z14 : Int) then
 (rdL Z1z[(((Int.toNat Zz) * 20) + 18)]?).bind fun q27 =>
 (Z7m [(D.list q26.n q26.cap q26.cs),(D.list q27.n q27.cap q27.cs)]).bind fun d28 =>
 (rdI .i64 (some d28)).bind fun x29 =>
 cond (x29 == (0 : Int))
 (some zI)
 (if 0 ≤ Zz ∧ Zz < (Z13 : Int) then
 (rdL Z1b[(((Int.toNat Zz) * 20) + 19)]?).bind fun q30 =>
 if 0 ≤ Zz ∧ Zz < (Z14 : Int) then
 (rdL Z1z[(((Int.toNat Zz) * 20) + 19)]?).bind fun q31 =>
 (Zkn [(D.list q30.n q30.cap q30.cs),(D.list q31.n q31.cap q31.cs)]).bind fun d32 =>
 (rdB (some d32)).bind fun b33 =>
 cond (!b33)
 (some zI)
 (Zyy m n0 Zz Z13 Z18 Z1b Z14 Z1q Z1z)
 else none
 else none)
 else none
 else none)
 else none
 else none
 else none
 else none)
 else none
 else none)
 (some (D.v (.int .i64 (1 : Int))))) := by kernel_rfl
noncomputable def Zsd (m : Nat) (a0_0n : Nat) (a0_0c : Option Nat) (a0_0 : List D) (a1_0n : Nat) (a1_0c : Option Nat) (a1_0 : List D) : Option D :=
 cond ((a0_0n : Int) != (a1_0n : Int))
 (some zI)
 (Zmj m m (0 : Int) a0_0n a0_0c a0_0 a1_0n a1_0c a1_0)
theorem Z1bg (m : Nat) (a0_0n : Nat) (a0_0c : Option Nat) (a0_0 : List D) (a1_0n : Nat) (a1_0c : Option Nat) (a1_0 : List D) : funD Tg Z7b m 4 Z4m Tryz.f31 [(D.agg [(D.list a0_0n a0_0c a0_0)]),(D.agg [(D.list a1_0n a1_0c a1_0)])] = Zsd m a0_0n a0_0c a0_0 a1_0n a1_0c a1_0 := by kernel_rfl
theorem Z1g8 : Enters Tg 31 := ⟨Tryz.f31,Tryz.func31,by kernel_rfl,by kernel_rfl⟩
theorem Z1g9 {ds : List D} {d : D} (h : funD Tg Z7b M 4 Z4m Tryz.f31 ds = some d) : DataSem Tg 31 ds d := Zf (H := Z7b) (SpOk.cons Zwn (SpOk.cons Z1g7 SpOk.nil)) mixed InlOk.nil Tryz.func31 Z1g8 h
noncomputable def Z38 : List D → Option D
 | [.agg [.list a0_0n a0_0c a0_0],.agg [.list a1_0n a1_0c a1_0]] => Zsd M a0_0n a0_0c a0_0 a1_0n a1_0c a1_0
 | _ => none
theorem Zvj : ∀ ds d,Z38 ds = some d → DataSem Tg 31 ds d := by
 intro ds d h
 unfold Z38 at h
 split at h
 ·exact Z1g9 ((Z1bg M _ _ _ _ _ _).trans h)
 ·cases h
def Z1h : FnH := ⟨[(3,⟨(bm 102 31),[(5,1)],(some 2)⟩)],[(4,⟨(bm 102 31),[],(some 3)⟩)]⟩
noncomputable def Z28 : Hints := ⟨[(34,Z2m),(44,Z6n)],[],[]⟩
noncomputable def Z88 (m n0 : Nat) (Zz : Int) (Z13 : Nat) (Z18 : Int) (Z1b : Nat) (Z14 : Option Nat) (Z1q : List D) (Z1z : Nat) (Z32 : List D) : Option D :=
 Z1e (bm 102 31) 0 2 (codeK Tg Z28.sp ⟨0,[],false,[]⟩ (inlK Tg Z28 m 4) m Z1h (subc [1,1,0,1,0,0] (bodyOf Tryz.f22))) n0 ⟨[Jk,(AV.d (D.v (.int .i64 Zz))),(AV.ptr 0 0),Jk,Jk,(AV.sl 1 0 Z13 none 1),(AV.d (D.v (.int .i64 Z18))),Jk,Jk,Jk,Jk,Jk,Jk,Jk,Jk,Jk,Jk,Jk,Jk,Jk,Jk,Jk,Jk,Jk,Jk,Jk,Jk,Jk,Jk,Jk,Jk],[(Blk.d 1 [(D.list Z1b Z14 Z1q)]),(Blk.d Z1z Z32)]⟩
  (contK Tg Z28.sp ⟨0,[],false,[]⟩ (inlK Tg Z28 m 4) m Z1h (endK Tg Tryz.f22 (fun v L => viewK L 8 v some)) [.block 0,.code (subc [1,1,1] (bodyOf Tryz.f22))])
noncomputable def Zop (m n0 : Nat) (Z2y : Int) (Z4c : Nat) (Z40 : Int) (Z3k : Nat) (Z2j : Option Nat) (Z6i : List D) (Z7k : Nat) (Zjw : List D) (Zns : Int) : Option D :=
 cutK m (codeK Tg Z28.sp ⟨0,[],false,[]⟩ (inlK Tg Z28 m 4) m Z1h (subc [1,1,0,1,0,0,1,1] (bodyOf Tryz.f22)) ⟨[Jk,(AV.d (D.v (.int .i64 Z2y))),(AV.ptr 0 0),Jk,Jk,(AV.sl 1 0 Z4c none 1),(AV.d (D.v (.int .i64 Z40))),Jk,Jk,Jk,Jk,Jk,Jk,Jk,Jk,Jk,Jk,Jk,Jk,Jk,Jk,Jk,Jk,Jk,Jk,Jk,Jk,Jk,Jk,Jk,Jk],[(Blk.d 1 [(D.list Z3k Z2j Z6i)]),(Blk.d Z7k Zjw),(Blk.d 1 [(D.v (.int .i64 Zns))])]⟩
  (contK Tg Z28.sp ⟨0,[],false,[]⟩ (inlK Tg Z28 m 4) m Z1h (endK Tg Tryz.f22 (fun v L => viewK L 8 v some)) [.loop (bm 102 31) 2 (subc [1,1,0,1,0,0] (bodyOf Tryz.f22)) n0,.block 0,.code (subc [1,1,1] (bodyOf Tryz.f22))]))
theorem Zwy (m n0 : Nat) (Z2y : Int) (Z4c : Nat) (Z40 : Int) (Z3k : Nat) (Z2j : Option Nat) (Z6i : List D) (Z7k : Nat) (Zjw : List D) (Zns : Int) : Zop m n0 Z2y Z4c Z40 Z3k Z2j Z6i Z7k Zjw Zns =
 (Z88 m n0 Z2y Z4c (IntKind.wrap .i64 (Z40 + (1 : Int))) Z3k Z2j Z6i Z7k Zjw) := (Z1y m _).trans (by kernel_rfl)
noncomputable def Zck (m n0 : Nat) (Z9n : Int) (Zbt : Nat) (Zbv : Int) (Zcj : Nat) (Z8v : Option Nat) (Zaj : List D) (Zha : Nat) (Zla : List D) : Option D :=
 cutK m (codeK Tg Z28.sp ⟨0,[],false,[]⟩ (inlK Tg Z28 m 4) m Z1h (subc [1,1,0,1,0,0,1,1] (bodyOf Tryz.f22)) ⟨[Jk,(AV.d (D.v (.int .i64 Z9n))),(AV.ptr 0 0),Jk,Jk,(AV.sl 1 0 Zbt none 1),(AV.d (D.v (.int .i64 Zbv))),Jk,Jk,Jk,Jk,Jk,Jk,Jk,Jk,Jk,Jk,Jk,Jk,Jk,Jk,Jk,Jk,Jk,Jk,Jk,Jk,Jk,Jk,Jk,Jk],[(Blk.d 1 [(D.list Zcj Z8v Zaj)]),(Blk.d Zha Zla)]⟩
  (contK Tg Z28.sp ⟨0,[],false,[]⟩ (inlK Tg Z28 m 4) m Z1h (endK Tg Tryz.f22 (fun v L => viewK L 8 v some)) [.loop (bm 102 31) 2 (subc [1,1,0,1,0,0] (bodyOf Tryz.f22)) n0,.block 0,.code (subc [1,1,1] (bodyOf Tryz.f22))]))
theorem Zij (m n0 : Nat) (Z9n : Int) (Zbt : Nat) (Zbv : Int) (Zcj : Nat) (Z8v : Option Nat) (Zaj : List D) (Zha : Nat) (Zla : List D) : Zck m n0 Z9n Zbt Zbv Zcj Z8v Zaj Zha Zla =
 (Z88 m n0 Z9n Zbt (IntKind.wrap .i64 (Zbv + (1 : Int))) Zcj Z8v Zaj Zha Zla) := (Z1y m _).trans (by kernel_rfl)
theorem Zyz (m n0 : Nat) (Zz : Int) (Z13 : Nat) (Z18 : Int) (Z1b : Nat) (Z14 : Option Nat) (Z1q : List D) (Z1z : Nat) (Z32 : List D) : Z88 m (n0 + 1) Zz Z13 Z18 Z1b Z14 Z1q Z1z Z32 =
 (cond (decide (Z18 < (Z1b : Int)))
 ((Z2m [(D.agg [(D.list Z1b Z14 Z1q)]),(D.v (.int .i64 Z18))]).bind fun d9 =>
 (rdI .i64 (some d9)).bind fun x10 =>
 cond (decide (x10 < Zz))
 ((Z6n [(D.agg [(D.list Z1b Z14 Z1q)]),(D.v (.int .i64 Z18))]).bind fun d11 =>
 (rdL (some d11)).bind fun q12 =>
 cond ((q12.n : Int) == (0 : Int))
 (if ownB ⟨0,[],false,[]⟩ 1 = true ∧ Z1z = (Z13 * 1) ∧ fitsRow (Z13 + 1) 8 ∧ 1 = 1 then
 Zop m n0 Zz (Z13 + 1) Z18 Z1b Z14 Z1q ((Z13 + 1) * 1) (Z32 ++ [(D.v (.int .i64 Z18))]) Z18
 else none)
 (Zck m n0 Zz Z13 Z18 Z1b Z14 Z1q Z1z Z32))
 (Zck m n0 Zz Z13 Z18 Z1b Z14 Z1q Z1z Z32))
 (if (0 + (Z13 * 1)) ≤ Z1z then
 some (D.list Z13 none (cutL Z1z Z32 0 (Z13 * 1)))
 else none)) := by kernel_rfl
noncomputable def Zfq (m : Nat) (a0_0n : Nat) (a0_0c : Option Nat) (a0_0 : List D) (a1 : Int) : Option D :=
 Z88 m m a1 0 (0 : Int) a0_0n a0_0c a0_0 0 []
theorem Zzx (m : Nat) (a0_0n : Nat) (a0_0c : Option Nat) (a0_0 : List D) (a1 : Int) : funD Tg Z28 m 4 Z1h Tryz.f22 [(D.agg [(D.list a0_0n a0_0c a0_0)]),(D.v (.int .i64 a1))] = Zfq m a0_0n a0_0c a0_0 a1 := by kernel_rfl
theorem Z14j : Enters Tg 22 := ⟨Tryz.f22,Tryz.func22,by kernel_rfl,by kernel_rfl⟩
theorem Z14k {ds : List D} {d : D} (h : funD Tg Z28 M 4 Z1h Tryz.f22 ds = some d) : DataSem Tg 22 ds d := Zf (H := Z28) (SpOk.cons Zgv (SpOk.cons Ztu SpOk.nil)) mixed InlOk.nil Tryz.func22 Z14j h
noncomputable def Z39 : List D → Option D
 | [.agg [.list a0_0n a0_0c a0_0],.v (.int .i64 a1)] => Zfq M a0_0n a0_0c a0_0 a1
 | _ => none
theorem Zse : ∀ ds d,Z39 ds = some d → DataSem Tg 22 ds d := by
 intro ds d h
 unfold Z39 at h
 split at h
 ·exact Z14k ((Zzx M _ _ _ _).trans h)
 ·cases h
def Z68 : FnH := ⟨[(1,⟨(bm 22 17),[],(some 2)⟩)],[]⟩
noncomputable def Zb8 : Hints := ⟨[(22,Z39),(28,Z50)],[],[]⟩
noncomputable def Zko (m n0 : Nat) (Zz : Int) (Z13 : List D) : Option D :=
 Z1e (bm 22 17) 0 2 (codeK Tg Zb8.sp ⟨0,[],false,[]⟩ (inlK Tg Zb8 m 4) m Z68 (subc [1,0,0] (bodyOf Tryz.f30))) n0 ⟨[Jk,(AV.d (D.v (.int .i64 Zz))),(AV.ptr 0 0),Jk,(AV.ptr 1 0),Jk,Jk,Jk,Jk,Jk,Jk,Jk,Jk,Jk,Jk,Jk,Jk],[(Blk.d 1 Z13),(Blk.d 1 [(D.list 0 (some 0) [])])]⟩
  (contK Tg Zb8.sp ⟨0,[],false,[]⟩ (inlK Tg Zb8 m 4) m Z68 (endK Tg Tryz.f30 (fun v L => viewK L 8 v some)) [.block 0])
theorem Z16i (m n0 : Nat) (Zz : Int) (Z13 : List D) : Zko m (n0 + 1) Zz Z13 =
 ((Z39 [(D.agg Z13),(D.v (.int .i64 Zz))]).bind fun d9 =>
 (rdL (some d9)).bind fun q10 =>
 cond ((q10.n : Int) == (0 : Int))
 (if (List.length Z13) = 1 then
 some (D.agg Z13)
 else none)
 (if 0 ≤ (1 : Int) ∧ (1 : Int) ≤ (q10.n : Int) then
 (Z50 [(D.agg Z13),(D.list 1 (Option.map (fun q => q - 0) q10.cap) ((List.drop 0 q10.cs).take 1))]).bind fun d11 =>
 (rdA (some d11)).bind fun c12 =>
 if (List.length c12) = 1 then
 Zko m n0 Zz c12
 else none
 else none)) := by kernel_rfl
noncomputable def Z14l (m : Nat) (a0_0n : Nat) (a0_0c : Option Nat) (a0_0 : List D) (a1 : Int) : Option D :=
 Zko m m a1 [(D.list a0_0n a0_0c a0_0)]
theorem Z18i (m : Nat) (a0_0n : Nat) (a0_0c : Option Nat) (a0_0 : List D) (a1 : Int) : funD Tg Zb8 m 4 Z68 Tryz.f30 [(D.agg [(D.list a0_0n a0_0c a0_0)]),(D.v (.int .i64 a1))] = Z14l m a0_0n a0_0c a0_0 a1 := by kernel_rfl
theorem Z1cz : Enters Tg 30 := ⟨Tryz.f30,Tryz.func30,by kernel_rfl,by kernel_rfl⟩
theorem Z1d0 {ds : List D} {d : D} (h : funD Tg Zb8 M 4 Z68 Tryz.f30 ds = some d) : DataSem Tg 30 ds d := Zf (H := Zb8) (SpOk.cons Zse (SpOk.cons Zyx SpOk.nil)) mixed InlOk.nil Tryz.func30 Z1cz h
noncomputable def Z6w : List D → Option D
 | [.agg [.list a0_0n a0_0c a0_0],.v (.int .i64 a1)] => Z14l M a0_0n a0_0c a0_0 a1
 | _ => none
theorem Z1d1 : ∀ ds d,Z6w ds = some d → DataSem Tg 30 ds d := by
 intro ds d h
 unfold Z6w at h
 split at h
 ·exact Z1d0 ((Z18i M _ _ _ _).trans h)
 ·cases h
def Z89 : FnH := ⟨[(5,⟨(bm 396 31),[],(some 1)⟩)],[]⟩
noncomputable def Zfr (Z3c : List D → Option D) : Hints := ⟨[(34,Z2m),(44,Z6n),(74,Z3c)],[],[]⟩
noncomputable def Zkp (Z3c : List D → Option D) (m n0 : Nat) (Zz : Int) (Z13 : Nat) (Z18 : Option Nat) (Z1b : List D) (Z14 : Int) (Z1q : Nat) (Z1z : Option Nat) (Z32 : List D) : Option D :=
 Z1e (bm 396 31) 0 1 (codeK Tg (Zfr Z3c).sp ⟨0,[],false,[]⟩ (inlK Tg (Zfr Z3c) m 4) m Z89 (subc [1,1,1,0,1,0,0] (bodyOf Tryz.f74))) n0 ⟨[Jk,Jk,(AV.d (D.v (.int .i64 Zz))),(AV.ptr 0 0),Jk,Jk,Jk,(AV.d (D.list Z13 Z18 Z1b)),(AV.d (D.v (.int .i64 Z14))),Jk,Jk,Jk,Jk,Jk,Jk,Jk,Jk,Jk,Jk,Jk,Jk,Jk,Jk,Jk,Jk,Jk,Jk,Jk,Jk,Jk,Jk],[(Blk.d 1 [(D.list Z1q Z1z Z32)])]⟩
  (contK Tg (Zfr Z3c).sp ⟨0,[],false,[]⟩ (inlK Tg (Zfr Z3c) m 4) m Z89 (endK Tg Tryz.f74 (fun v L => viewK L 8 v some)) [.block 0,.code (subc [1,1,1,1] (bodyOf Tryz.f74))])
theorem Z16j (Z3c : List D → Option D) (m n0 : Nat) (Zz : Int) (Z13 : Nat) (Z18 : Option Nat) (Z1b : List D) (Z14 : Int) (Z1q : Nat) (Z1z : Option Nat) (Z32 : List D) : Zkp Z3c m (n0 + 1) Zz Z13 Z18 Z1b Z14 Z1q Z1z Z32 =
 (cond (decide (Z14 < (Z13 : Int)))
 (if 0 ≤ Z14 ∧ Z14 < (Z13 : Int) then
 (rdI .i64 Z1b[((Int.toNat Z14) * 1)]?).bind fun x11 =>
 (Z3c [(D.agg [(D.list Z1q Z1z Z32)]),(D.v (.int .i64 x11)),(D.v (.int .i64 Zz))]).bind fun d12 =>
 (rdI .i64 (some d12)).bind fun x13 =>
 cond (x13 == (1 : Int))
 (some (D.v (.int .i64 (1 : Int))))
 (Zkp Z3c m n0 Zz Z13 Z18 Z1b (IntKind.wrap .i64 (Z14 + (1 : Int))) Z1q Z1z Z32)
 else none)
 (some zI)) := by kernel_rfl
noncomputable def Zpl (Z3c : List D → Option D) (m : Nat) (a0_0n : Nat) (a0_0c : Option Nat) (a0_0 : List D) (a1 : Int) (a2 : Int) : Option D :=
 (Z2m [(D.agg [(D.list a0_0n a0_0c a0_0)]),(D.v (.int .i64 a1))]).bind fun d1 =>
 (rdI .i64 (some d1)).bind fun x2 =>
 cond (x2 == a2)
 (some (D.v (.int .i64 (1 : Int))))
 ((Z6n [(D.agg [(D.list a0_0n a0_0c a0_0)]),(D.v (.int .i64 a1))]).bind fun d3 =>
 (rdL (some d3)).bind fun q4 =>
 Zkp Z3c m m a2 q4.n q4.cap q4.cs (0 : Int) a0_0n a0_0c a0_0)
theorem Z18j (Z3c : List D → Option D) (m : Nat) (a0_0n : Nat) (a0_0c : Option Nat) (a0_0 : List D) (a1 : Int) (a2 : Int) : funD Tg (Zfr Z3c) m 4 Z89 Tryz.f74 [(D.agg [(D.list a0_0n a0_0c a0_0)]),(D.v (.int .i64 a1)),(D.v (.int .i64 a2))] = Zpl Z3c m a0_0n a0_0c a0_0 a1 a2 := by kernel_rfl
theorem Z1d2 : Enters Tg 74 := ⟨Tryz.f74,Tryz.func74,by kernel_rfl,by kernel_rfl⟩
noncomputable def Z69 : Nat → List D → Option D
 | 0,_ => none
 | n + 1,[.agg [.list a0_0n a0_0c a0_0],.v (.int .i64 a1),.v (.int .i64 a2)] => Zpl (Z69 n) M a0_0n a0_0c a0_0 a1 a2
 | _ + 1,_ => none
theorem Z1bh (n : Nat) : ∀ ds d,Z69 n ds = some d → DataSem Tg 74 ds d := by
 induction n with
 | zero => intro ds d h; cases h
 | succ n ih =>
  intro ds d h
  unfold Z69 at h
  split at h
  ·rename_i hx; cases hx
  ·rename_i hx; cases hx; exact Zf (H := Zfr (Z69 n)) (SpOk.cons Zgv (SpOk.cons Ztu (SpOk.cons ih SpOk.nil))) mixed InlOk.nil Tryz.func74 Z1d2 ((Z18j (Z69 n) M _ _ _ _ _).trans h)
  ·cases h
noncomputable def Zt0 : List D → Option D := Z69 M
theorem Z1d3 : ∀ ds d,Zt0 ds = some d → DataSem Tg 74 ds d := Z1bh M
def Z2h : FnH := ⟨[(3,⟨(bm 102 31),[(5,1)],(some 2)⟩)],[(4,⟨(bm 102 31),[],(some 3)⟩)]⟩
noncomputable def Z48 : Hints := ⟨[(34,Z2m),(74,Zt0)],[],[]⟩
noncomputable def Zf1 (m n0 : Nat) (Zz : Int) (Z13 : Nat) (Z18 : Int) (Z1b : Nat) (Z14 : Option Nat) (Z1q : List D) (Z1z : Nat) (Z32 : List D) : Option D :=
 Z1e (bm 102 31) 0 2 (codeK Tg Z48.sp ⟨0,[],false,[]⟩ (inlK Tg Z48 m 4) m Z2h (subc [1,1,0,1,0,0] (bodyOf Tryz.f26))) n0 ⟨[Jk,(AV.d (D.v (.int .i64 Zz))),(AV.ptr 0 0),Jk,Jk,(AV.sl 1 0 Z13 none 1),(AV.d (D.v (.int .i64 Z18))),Jk,Jk,Jk,Jk,Jk,Jk,Jk,Jk,Jk,Jk,Jk,Jk,Jk,Jk,Jk,Jk,Jk,Jk,Jk,Jk,Jk,Jk,Jk,Jk],[(Blk.d 1 [(D.list Z1b Z14 Z1q)]),(Blk.d Z1z Z32)]⟩
  (contK Tg Z48.sp ⟨0,[],false,[]⟩ (inlK Tg Z48 m 4) m Z2h (endK Tg Tryz.f26 (fun v L => viewK L 8 v some)) [.block 0,.code (subc [1,1,1] (bodyOf Tryz.f26))])
noncomputable def Zoj (m n0 : Nat) (Z2y : Int) (Z4c : Nat) (Z40 : Int) (Z3k : Nat) (Z2j : Option Nat) (Z6i : List D) (Z7k : Nat) (Zjw : List D) (Zns : Int) : Option D :=
 cutK m (codeK Tg Z48.sp ⟨0,[],false,[]⟩ (inlK Tg Z48 m 4) m Z2h (subc [1,1,0,1,0,0,1,1] (bodyOf Tryz.f26)) ⟨[Jk,(AV.d (D.v (.int .i64 Z2y))),(AV.ptr 0 0),Jk,Jk,(AV.sl 1 0 Z4c none 1),(AV.d (D.v (.int .i64 Z40))),Jk,Jk,Jk,Jk,Jk,Jk,Jk,Jk,Jk,Jk,Jk,Jk,Jk,Jk,Jk,Jk,Jk,Jk,Jk,Jk,Jk,Jk,Jk,Jk],[(Blk.d 1 [(D.list Z3k Z2j Z6i)]),(Blk.d Z7k Zjw),(Blk.d 1 [(D.v (.int .i64 Zns))])]⟩
  (contK Tg Z48.sp ⟨0,[],false,[]⟩ (inlK Tg Z48 m 4) m Z2h (endK Tg Tryz.f26 (fun v L => viewK L 8 v some)) [.loop (bm 102 31) 2 (subc [1,1,0,1,0,0] (bodyOf Tryz.f26)) n0,.block 0,.code (subc [1,1,1] (bodyOf Tryz.f26))]))
theorem Zsf (m n0 : Nat) (Z2y : Int) (Z4c : Nat) (Z40 : Int) (Z3k : Nat) (Z2j : Option Nat) (Z6i : List D) (Z7k : Nat) (Zjw : List D) (Zns : Int) : Zoj m n0 Z2y Z4c Z40 Z3k Z2j Z6i Z7k Zjw Zns =
 (Zf1 m n0 Z2y Z4c (IntKind.wrap .i64 (Z40 + (1 : Int))) Z3k Z2j Z6i Z7k Zjw) := (Z1y m _).trans (by kernel_rfl)
noncomputable def Zsg (m n0 : Nat) (Z9n : Int) (Zbt : Nat) (Zbv : Int) (Zcj : Nat) (Z8v : Option Nat) (Zaj : List D) (Zha : Nat) (Zla : List D) : Option D :=
 cutK m (codeK Tg Z48.sp ⟨0,[],false,[]⟩ (inlK Tg Z48 m 4) m Z2h (subc [1,1,0,1,0,0,1,1] (bodyOf Tryz.f26)) ⟨[Jk,(AV.d (D.v (.int .i64 Z9n))),(AV.ptr 0 0),Jk,Jk,(AV.sl 1 0 Zbt none 1),(AV.d (D.v (.int .i64 Zbv))),Jk,Jk,Jk,Jk,Jk,Jk,Jk,Jk,Jk,Jk,Jk,Jk,Jk,Jk,Jk,Jk,Jk,Jk,Jk,Jk,Jk,Jk,Jk,Jk],[(Blk.d 1 [(D.list Zcj Z8v Zaj)]),(Blk.d Zha Zla)]⟩
  (contK Tg Z48.sp ⟨0,[],false,[]⟩ (inlK Tg Z48 m 4) m Z2h (endK Tg Tryz.f26 (fun v L => viewK L 8 v some)) [.loop (bm 102 31) 2 (subc [1,1,0,1,0,0] (bodyOf Tryz.f26)) n0,.block 0,.code (subc [1,1,1] (bodyOf Tryz.f26))]))
theorem Zzy (m n0 : Nat) (Z9n : Int) (Zbt : Nat) (Zbv : Int) (Zcj : Nat) (Z8v : Option Nat) (Zaj : List D) (Zha : Nat) (Zla : List D) : Zsg m n0 Z9n Zbt Zbv Zcj Z8v Zaj Zha Zla =
 (Zf1 m n0 Z9n Zbt (IntKind.wrap .i64 (Zbv + (1 : Int))) Zcj Z8v Zaj Zha Zla) := (Z1y m _).trans (by kernel_rfl)
theorem Z16k (m n0 : Nat) (Zz : Int) (Z13 : Nat) (Z18 : Int) (Z1b : Nat) (Z14 : Option Nat) (Z1q : List D) (Z1z : Nat) (Z32 : List D) : Zf1 m (n0 + 1) Zz Z13 Z18 Z1b Z14 Z1q Z1z Z32 =
 (cond (decide (Z18 < (Z1b : Int)))
 ((Z2m [(D.agg [(D.list Z1b Z14 Z1q)]),(D.v (.int .i64 Z18))]).bind fun d9 =>
 (rdI .i64 (some d9)).bind fun x10 =>
 cond (decide (x10 ≥ Zz))
 (if ownB ⟨0,[],false,[]⟩ 1 = true ∧ Z1z = (Z13 * 1) ∧ fitsRow (Z13 + 1) 8 ∧ 1 = 1 then
 Zoj m n0 Zz (Z13 + 1) Z18 Z1b Z14 Z1q ((Z13 + 1) * 1) (Z32 ++ [(D.v (.int .i64 Z18))]) Z18
 else none)
 ((Zt0 [(D.agg [(D.list Z1b Z14 Z1q)]),(D.v (.int .i64 Z18)),(D.v (.int .i64 Zz))]).bind fun d11 =>
 (rdI .i64 (some d11)).bind fun x12 =>
 cond (x12 == (1 : Int))
 (if ownB ⟨0,[],false,[]⟩ 1 = true ∧ Z1z = (Z13 * 1) ∧ fitsRow (Z13 + 1) 8 ∧ 1 = 1 then
 Zoj m n0 Zz (Z13 + 1) Z18 Z1b Z14 Z1q ((Z13 + 1) * 1) (Z32 ++ [(D.v (.int .i64 Z18))]) Z18
 else none)
 (Zsg m n0 Zz Z13 Z18 Z1b Z14 Z1q Z1z Z32)))
 (if (0 + (Z13 * 1)) ≤ Z1z then
 some (D.list Z13 none (cutL Z1z Z32 0 (Z13 * 1)))
 else none)) := by kernel_rfl
noncomputable def Zpm (m : Nat) (a0_0n : Nat) (a0_0c : Option Nat) (a0_0 : List D) (a1 : Int) : Option D :=
 Zf1 m m a1 0 (0 : Int) a0_0n a0_0c a0_0 0 []
theorem Z18k (m : Nat) (a0_0n : Nat) (a0_0c : Option Nat) (a0_0 : List D) (a1 : Int) : funD Tg Z48 m 4 Z2h Tryz.f26 [(D.agg [(D.list a0_0n a0_0c a0_0)]),(D.v (.int .i64 a1))] = Zpm m a0_0n a0_0c a0_0 a1 := by kernel_rfl
theorem Z1d4 : Enters Tg 26 := ⟨Tryz.f26,Tryz.func26,by kernel_rfl,by kernel_rfl⟩
theorem Z1d5 {ds : List D} {d : D} (h : funD Tg Z48 M 4 Z2h Tryz.f26 ds = some d) : DataSem Tg 26 ds d := Zf (H := Z48) (SpOk.cons Zgv (SpOk.cons Z1d3 SpOk.nil)) mixed InlOk.nil Tryz.func26 Z1d4 h
noncomputable def Z3d : List D → Option D
 | [.agg [.list a0_0n a0_0c a0_0],.v (.int .i64 a1)] => Zpm M a0_0n a0_0c a0_0 a1
 | _ => none
theorem Z10w : ∀ ds d,Z3d ds = some d → DataSem Tg 26 ds d := by
 intro ds d h
 unfold Z3d at h
 split at h
 ·exact Z1d5 ((Z18k M _ _ _ _).trans h)
 ·cases h
end Go.Ev