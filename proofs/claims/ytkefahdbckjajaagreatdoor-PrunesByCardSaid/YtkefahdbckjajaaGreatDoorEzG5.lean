/- Functions of the given program in plain form,printed: each with the proof that it is what the evaluator comes to,and that the program function returns what it says. No conditions. -/
import Derived.Test.YtkefahdbckjajaaGreatDoorEzG4
set_option linter.unusedVariables false
set_option maxRecDepth 100000
namespace Go.Ev
open Go Go.Proofs

def Z3j : FnH := ⟨[(1,⟨(bm 14 28),[],(some 1)⟩),(3,⟨(bm 142 28),[],(some 1)⟩)],[]⟩
noncomputable def Z5r : Hints := ⟨[],[],[]⟩
noncomputable def Z9p (m n0 : Nat) (Zl : Int) (Zt : Nat) (Zy : Option Nat) (Z11 : List D) (Zs : Nat) (Z1b : Option Nat) (Z1o : List D) : Option D :=
 Z15 (bm 14 28) 0 1 (codeK Tg Z5r.sp ⟨0,[],false,[]⟩ (inlK Tg Z5r m 4) m Z3j (subc [1,0,0,0] (bodyOf Tryz.f75))) n0 ⟨[Jk,(AV.d (D.v (.int .i64 Zl))),(AV.d (D.list Zt Zy Z11)),(AV.ptr 0 0),Jk,Jk,Jk,Jk,Jk,Jk,Jk,Jk,Jk,Jk,Jk,Jk,Jk,Jk,Jk,Jk,Jk,Jk,Jk,Jk,Jk,Jk,Jk,Jk],[(Blk.d 1 [(D.list Zs Z1b Z1o)])]⟩
  (contK Tg Z5r.sp ⟨0,[],false,[]⟩ (inlK Tg Z5r m 4) m Z3j (endK Tg Tryz.f75 (fun v L => viewK L 8 v some)) [.block 0,.code (subc [1,1] (bodyOf Tryz.f75))])
noncomputable def Zk6 (m n0 n1 : Nat) (Z44 : Int) (Z7b : Nat) (Z5a : Option Nat) (Z6f : List D) (Z5b : Int) (Z62 : Nat) (Z4q : Option Nat) (Z54 : List D) : Option D :=
 Z15 (bm 142 28) 0 1 (codeK Tg Z5r.sp ⟨0,[],false,[]⟩ (inlK Tg Z5r m 4) m Z3j (subc [1,0,0,0,1,0,0,1,0,0] (bodyOf Tryz.f75))) n1 ⟨[Jk,(AV.d (D.v (.int .i64 Z44))),(AV.d (D.list Z7b Z5a Z6f)),(AV.ptr 0 0),Jk,Jk,Jk,(AV.d (D.v (.int .i64 Z5b))),Jk,Jk,Jk,Jk,Jk,Jk,Jk,Jk,Jk,Jk,Jk,Jk,Jk,Jk,Jk,Jk,Jk,Jk,Jk,Jk],[(Blk.d 1 [(D.list Z62 Z4q Z54)])]⟩
  (contK Tg Z5r.sp ⟨0,[],false,[]⟩ (inlK Tg Z5r m 4) m Z3j (endK Tg Tryz.f75 (fun v L => viewK L 8 v some)) [.block 2,.code (subc [1,0,0,0,1,0,1] (bodyOf Tryz.f75)),.block 1,.loop (bm 14 28) 1 (subc [1,0,0,0] (bodyOf Tryz.f75)) n0,.block 0,.code (subc [1,1] (bodyOf Tryz.f75))])
theorem Z15i (m n0 n1 : Nat) (Z44 : Int) (Z7b : Nat) (Z5a : Option Nat) (Z6f : List D) (Z5b : Int) (Z62 : Nat) (Z4q : Option Nat) (Z54 : List D) : Zk6 m n0 (n1 + 1) Z44 Z7b Z5a Z6f Z5b Z62 Z4q Z54 =
 (cond (decide (Z5b < (Z7b : Int)))
 (if 0 ≤ Z5b ∧ Z5b < (Z7b : Int) then
 (rdI .i64 Z6f[((Int.toNat Z5b) * 1)]?).bind fun x7 =>
 cond (x7 == Z44)
 (some (D.v (.int .i64 (1 : Int))))
 (Zk6 m n0 n1 Z44 Z7b Z5a Z6f (IntKind.wrap .i64 (Z5b + (1 : Int))) Z62 Z4q Z54)
 else none)
 (if 0 ≤ Z44 ∧ Z44 < (Z62 : Int) then
 (rdI .i64 Z54[(((Int.toNat Z44) * 20) + 0)]?).bind fun x8 =>
 Z9p m n0 x8 Z7b Z5a Z6f Z62 Z4q Z54
 else none)) := by kernel_rfl
theorem Ztm (m n0 : Nat) (Zl : Int) (Zt : Nat) (Zy : Option Nat) (Z11 : List D) (Zs : Nat) (Z1b : Option Nat) (Z1o : List D) : Z9p m (n0 + 1) Zl Zt Zy Z11 Zs Z1b Z1o =
 (cond (decide (Zl ≥ (0 : Int)))
 (Zk6 m n0 m Zl Zt Zy Z11 (0 : Int) Zs Z1b Z1o)
 (some zI)) := by kernel_rfl
noncomputable def Zp9 (m : Nat) (a0_0n : Nat) (a0_0c : Option Nat) (a0_0 : List D) (a1 : Int) (a2n : Nat) (a2c : Option Nat) (a2 : List D) : Option D :=
 Z9p m m a1 a2n a2c a2 a0_0n a0_0c a0_0
theorem Z17g (m : Nat) (a0_0n : Nat) (a0_0c : Option Nat) (a0_0 : List D) (a1 : Int) (a2n : Nat) (a2c : Option Nat) (a2 : List D) : funD Tg Z5r m 4 Z3j Tryz.f75 [(D.agg [(D.list a0_0n a0_0c a0_0)]),(D.v (.int .i64 a1)),(D.list a2n a2c a2)] = Zp9 m a0_0n a0_0c a0_0 a1 a2n a2c a2 := by kernel_rfl
theorem Z1c1 : Enters Tg 75 := ⟨Tryz.f75,Tryz.func75,by kernel_rfl,by kernel_rfl⟩
theorem Z1c2 {ds : List D} {d : D} (h : funD Tg Z5r M 4 Z3j Tryz.f75 ds = some d) : DataSem Tg 75 ds d := Z8 (H := Z5r) SpOk.nil mixed InlOk.nil Tryz.func75 Z1c1 h
noncomputable def Zbm : List D → Option D
  | [.agg [.list a0_0n a0_0c a0_0],.v (.int .i64 a1),.list a2n a2c a2] => Zp9 M a0_0n a0_0c a0_0 a1 a2n a2c a2
  | _ => none
theorem Z1c3 : ∀ ds d,Zbm ds = some d → DataSem Tg 75 ds d := by
  intro ds d h
  unfold Zbm at h
  split at h
  · exact Z1c2 ((Z17g M _ _ _ _ _ _ _).trans h)
  · cases h

def Z18 : FnH := ⟨[(3,⟨(bm 118 51),[(1002000,20)],(some 4)⟩),(9,⟨(bm 1014 51),[],(some 5)⟩)],[(4,⟨(bm 118 51),[],(some 6)⟩)]⟩
noncomputable def Z22 : Hints := ⟨[(75,Zbm)],[],[]⟩
noncomputable def Z88 (m n0 : Nat) (Zl : Nat) (Zt : Option Nat) (Zy : List D) (Z11 : Int) (Zs : Nat) (Z1b : Option Nat) (Z1o : List D) (Z2r : Nat) (Z3x : Nat) (Zfh : List D) : Option D :=
 Z15 (bm 118 51) 0 4 (codeK Tg Z22.sp ⟨0,[],false,[]⟩ (inlK Tg Z22 m 4) m Z18 (subc [1,1,0,1,0,0] (bodyOf Tryz.f28))) n0 ⟨[Jk,(AV.d (D.list Zl Zt Zy)),(AV.ptr 0 0),Jk,(AV.ptr 1 0),(AV.ptr 2 0),(AV.d (D.v (.int .i64 Z11))),Jk,Jk,Jk,Jk,Jk,Jk,Jk,Jk,Jk,Jk,Jk,Jk,Jk,Jk,Jk,Jk,Jk,Jk,Jk,Jk,Jk,Jk,Jk,Jk,Jk,Jk,Jk,Jk,Jk,Jk,Jk,Jk,Jk,Jk,Jk,Jk,Jk,Jk,Jk,Jk,Jk,Jk,Jk,Jk],[(Blk.d 1 [(D.list Zs Z1b Z1o)]),(Blk.d 1 [(D.list 0 (some 0) [])]),(Blk.a 1 [(AV.sl 3 0 Z2r none 20)]),(Blk.d Z3x Zfh)]⟩
  (contK Tg Z22.sp ⟨0,[],false,[]⟩ (inlK Tg Z22 m 4) m Z18 (endK Tg Tryz.f28 (fun v L => viewK L 8 v some)) [.block 0,.code (subc [1,1,1] (bodyOf Tryz.f28))])
noncomputable def Ztn (m n0 : Nat) (Z2o : Nat) (Z43 : Option Nat) (Z3v : List D) (Z3o : Int) (Z2d : Nat) (Z6d : Option Nat) (Z7a : List D) (Zki : Nat) (Zp1 : Nat) (Z12w : List D) : Option D :=
 cutK m (codeK Tg Z22.sp ⟨0,[],false,[]⟩ (inlK Tg Z22 m 4) m Z18 (subc [1,1,0,1,0,0,1,1] (bodyOf Tryz.f28)) ⟨[Jk,(AV.d (D.list Z2o Z43 Z3v)),(AV.ptr 0 0),Jk,(AV.ptr 1 0),(AV.ptr 2 0),(AV.d (D.v (.int .i64 Z3o))),Jk,Jk,Jk,Jk,Jk,Jk,Jk,Jk,Jk,Jk,Jk,Jk,Jk,Jk,Jk,Jk,Jk,Jk,Jk,Jk,Jk,Jk,Jk,Jk,Jk,Jk,Jk,Jk,Jk,Jk,Jk,Jk,Jk,Jk,Jk,Jk,Jk,Jk,Jk,Jk,Jk,Jk,Jk,Jk],[(Blk.d 1 [(D.list Z2d Z6d Z7a)]),(Blk.d 1 [(D.list 0 (some 0) [])]),(Blk.a 1 [(AV.sl 3 0 Zki none 20)]),(Blk.d Zp1 Z12w)]⟩
  (contK Tg Z22.sp ⟨0,[],false,[]⟩ (inlK Tg Z22 m 4) m Z18 (endK Tg Tryz.f28 (fun v L => viewK L 8 v some)) [.loop (bm 118 51) 4 (subc [1,1,0,1,0,0] (bodyOf Tryz.f28)) n0,.block 0,.code (subc [1,1,1] (bodyOf Tryz.f28))]))
theorem Z11c (m n0 : Nat) (Z2o : Nat) (Z43 : Option Nat) (Z3v : List D) (Z3o : Int) (Z2d : Nat) (Z6d : Option Nat) (Z7a : List D) (Zki : Nat) (Zp1 : Nat) (Z12w : List D) : Ztn m n0 Z2o Z43 Z3v Z3o Z2d Z6d Z7a Zki Zp1 Z12w =
 (Z88 m n0 Z2o Z43 Z3v (IntKind.wrap .i64 (Z3o + (1 : Int))) Z2d Z6d Z7a Zki Zp1 Z12w) := (Z1t m _).trans (by kernel_rfl)
noncomputable def Zh2 (m n0 n1 : Nat) (Z44 : Nat) (Z7b : Option Nat) (Z5a : List D) (Z6f : Int) (Z5b : Int) (Z62 : Int) (Z4q : Nat) (Z54 : Option Nat) (Z5c : List D) (Z5d : Nat) (Z3n : Nat) (Z3l : List D) (Z36 : List D) : Option D :=
 Z15 (bm 1014 51) 0 5 (codeK Tg Z22.sp ⟨0,[],false,[]⟩ (inlK Tg Z22 m 4) m Z18 (subc [1,1,0,1,0,0,1,0,0,1,1,1,0,1,0,0] (bodyOf Tryz.f28))) n1 ⟨[Jk,(AV.d (D.list Z44 Z7b Z5a)),(AV.ptr 0 0),Jk,(AV.ptr 1 0),(AV.ptr 2 0),(AV.d (D.v (.int .i64 Z6f))),(AV.ptr 4 0),(AV.d (D.v (.int .i64 Z5b))),(AV.d (D.v (.int .i64 Z62))),Jk,Jk,Jk,Jk,Jk,Jk,Jk,Jk,Jk,Jk,Jk,Jk,Jk,Jk,Jk,Jk,Jk,Jk,Jk,Jk,Jk,Jk,Jk,Jk,Jk,Jk,Jk,Jk,Jk,Jk,Jk,Jk,Jk,Jk,Jk,Jk,Jk,Jk,Jk,Jk,Jk],[(Blk.d 1 [(D.list Z4q Z54 Z5c)]),(Blk.d 1 [(D.list 0 (some 0) [])]),(Blk.a 1 [(AV.sl 3 0 Z5d none 20)]),(Blk.d Z3n Z3l),(Blk.d 20 Z36)]⟩
  (contK Tg Z22.sp ⟨0,[],false,[]⟩ (inlK Tg Z22 m 4) m Z18 (endK Tg Tryz.f28 (fun v L => viewK L 8 v some)) [.block 2,.code (subc [1,1,0,1,0,0,1,0,0,1,1,1,1] (bodyOf Tryz.f28)),.block 1,.code (subc [1,1,0,1,0,0,1,1] (bodyOf Tryz.f28)),.loop (bm 118 51) 4 (subc [1,1,0,1,0,0] (bodyOf Tryz.f28)) n0,.block 0,.code (subc [1,1,1] (bodyOf Tryz.f28))])
noncomputable def Zqj (m n0 : Nat) (Z8i : Nat) (Z9q : Option Nat) (Z9r : List D) (Za9 : Int) (Z80 : Nat) (Z8s : Option Nat) (Zf3 : List D) (Zif : Nat) (Zno : Nat) (Zso : List D) (Zns : List D) (Zun : List D) : Option D :=
 cutK m (codeK Tg Z22.sp ⟨0,[],false,[]⟩ (inlK Tg Z22 m 4) m Z18 (subc [1,1,0,1,0,0,1,1] (bodyOf Tryz.f28)) ⟨[Jk,(AV.d (D.list Z8i Z9q Z9r)),(AV.ptr 0 0),Jk,(AV.ptr 1 0),(AV.ptr 2 0),(AV.d (D.v (.int .i64 Za9))),Jk,Jk,Jk,Jk,Jk,Jk,Jk,Jk,Jk,Jk,Jk,Jk,Jk,Jk,Jk,Jk,Jk,Jk,Jk,Jk,Jk,Jk,Jk,Jk,Jk,Jk,Jk,Jk,Jk,Jk,Jk,Jk,Jk,Jk,Jk,Jk,Jk,Jk,Jk,Jk,Jk,Jk,Jk,Jk],[(Blk.d 1 [(D.list Z80 Z8s Zf3)]),(Blk.d 1 [(D.list 0 (some 0) [])]),(Blk.a 1 [(AV.sl 3 0 Zif none 20)]),(Blk.d Zno Zso),(Blk.d 20 Zns),(Blk.d 20 Zun)]⟩
  (contK Tg Z22.sp ⟨0,[],false,[]⟩ (inlK Tg Z22 m 4) m Z18 (endK Tg Tryz.f28 (fun v L => viewK L 8 v some)) [.loop (bm 118 51) 4 (subc [1,1,0,1,0,0] (bodyOf Tryz.f28)) n0,.block 0,.code (subc [1,1,1] (bodyOf Tryz.f28))]))
theorem Zxz (m n0 : Nat) (Z8i : Nat) (Z9q : Option Nat) (Z9r : List D) (Za9 : Int) (Z80 : Nat) (Z8s : Option Nat) (Zf3 : List D) (Zif : Nat) (Zno : Nat) (Zso : List D) (Zns : List D) (Zun : List D) : Zqj m n0 Z8i Z9q Z9r Za9 Z80 Z8s Zf3 Zif Zno Zso Zns Zun =
 (Z88 m n0 Z8i Z9q Z9r (IntKind.wrap .i64 (Za9 + (1 : Int))) Z80 Z8s Zf3 Zif Zno Zso) := (Z1t m _).trans (by kernel_rfl)
theorem Z13h (m n0 n1 : Nat) (Z44 : Nat) (Z7b : Option Nat) (Z5a : List D) (Z6f : Int) (Z5b : Int) (Z62 : Int) (Z4q : Nat) (Z54 : Option Nat) (Z5c : List D) (Z5d : Nat) (Z3n : Nat) (Z3l : List D) (Z36 : List D) : Zh2 m n0 (n1 + 1) Z44 Z7b Z5a Z6f Z5b Z62 Z4q Z54 Z5c Z5d Z3n Z3l Z36 =
 ((rdI .i64 Z36[0]?).bind fun x33 =>
 cond (decide (Z62 < x33))
 ((Zbm [(D.agg [(D.list Z4q Z54 Z5c)]),(D.v (.int .i64 Z62)),(D.list Z44 Z7b Z5a)]).bind fun d34 =>
 (rdI .i64 (some d34)).bind fun x35 =>
 Zh2 m n0 n1 Z44 Z7b Z5a Z6f (IntKind.wrap .i64 (Z5b + x35)) (IntKind.wrap .i64 (Z62 + (1 : Int))) Z4q Z54 Z5c Z5d Z3n Z3l Z36)
 ((rdI .i64 Z36[0]?).bind fun x36 =>
 if (List.length (List.set Z36 0 (D.v (.int .i64 (IntKind.wrap .i64 (x36 - Z5b)))))) = 20 then
 if ownB ⟨0,[],false,[]⟩ 3 = true ∧ Z3n = (Z5d * 20) ∧ Z1w (Z5d + 1) 128 ∧ (List.length (List.set Z36 0 (D.v (.int .i64 (IntKind.wrap .i64 (x36 - Z5b)))))) = 20 then
 Zqj m n0 Z44 Z7b Z5a Z6f Z4q Z54 Z5c (Z5d + 1) ((Z5d + 1) * 20) (Z3l ++ (List.set Z36 0 (D.v (.int .i64 (IntKind.wrap .i64 (x36 - Z5b)))))) (List.set Z36 0 (D.v (.int .i64 (IntKind.wrap .i64 (x36 - Z5b))))) (List.set Z36 0 (D.v (.int .i64 (IntKind.wrap .i64 (x36 - Z5b)))))
 else none
 else none)) := by kernel_rfl
theorem Z13i (m n0 : Nat) (Zl : Nat) (Zt : Option Nat) (Zy : List D) (Z11 : Int) (Zs : Nat) (Z1b : Option Nat) (Z1o : List D) (Z2r : Nat) (Z3x : Nat) (Zfh : List D) : Z88 m (n0 + 1) Zl Zt Zy Z11 Zs Z1b Z1o Z2r Z3x Zfh =
 (cond (decide (Z11 < (Zs : Int)))
 ((Zbm [(D.agg [(D.list Zs Z1b Z1o)]),(D.v (.int .i64 Z11)),(D.list Zl Zt Zy)]).bind fun d25 =>
 (rdI .i64 (some d25)).bind fun x26 =>
 cond (x26 == (1 : Int))
 (Ztn m n0 Zl Zt Zy Z11 Zs Z1b Z1o Z2r Z3x Zfh)
 (if 0 ≤ Z11 ∧ Z11 < (Zs : Int) then
 if (((Int.toNat Z11) * 20) + 20) ≤ (List.length Z1o) then
 if (List.length ((List.drop ((Int.toNat Z11) * 20) Z1o).take 20)) = 20 then
 Zh2 m n0 m Zl Zt Zy Z11 (0 : Int) (0 : Int) Zs Z1b Z1o Z2r Z3x Zfh ((List.drop ((Int.toNat Z11) * 20) Z1o).take 20)
 else none
 else none
 else none))
 (if (0 + (Z2r * 20)) ≤ Z3x then
 some (D.agg [(D.list Z2r none (cutL Z3x Zfh 0 (Z2r * 20)))])
 else none)) := by kernel_rfl
noncomputable def Zm0 (m : Nat) (a0_0n : Nat) (a0_0c : Option Nat) (a0_0 : List D) (a1n : Nat) (a1c : Option Nat) (a1 : List D) : Option D :=
 Z88 m m a1n a1c a1 (0 : Int) a0_0n a0_0c a0_0 0 0 []
theorem Z15j (m : Nat) (a0_0n : Nat) (a0_0c : Option Nat) (a0_0 : List D) (a1n : Nat) (a1c : Option Nat) (a1 : List D) : funD Tg Z22 m 4 Z18 Tryz.f28 [(D.agg [(D.list a0_0n a0_0c a0_0)]),(D.list a1n a1c a1)] = Zm0 m a0_0n a0_0c a0_0 a1n a1c a1 := by kernel_rfl
theorem Z1ak : Enters Tg 28 := ⟨Tryz.f28,Tryz.func28,by kernel_rfl,by kernel_rfl⟩
theorem Z1al {ds : List D} {d : D} (h : funD Tg Z22 M 4 Z18 Tryz.f28 ds = some d) : DataSem Tg 28 ds d := Z8 (H := Z22) (SpOk.cons Z1c3 SpOk.nil) mixed InlOk.nil Tryz.func28 Z1ak h
noncomputable def Z7t : List D → Option D
  | [.agg [.list a0_0n a0_0c a0_0],.list a1n a1c a1] => Zm0 M a0_0n a0_0c a0_0 a1n a1c a1
  | _ => none
theorem Zy0 : ∀ ds d,Z7t ds = some d → DataSem Tg 28 ds d := by
  intro ds d h
  unfold Z7t at h
  split at h
  · exact Z1al ((Z15j M _ _ _ _ _ _).trans h)
  · cases h

def Z46 : FnH := ⟨[(2,⟨(bm 38 36),[],(some 1)⟩)],[(3,⟨(bm 38 36),[],(some 1)⟩)]⟩
noncomputable def Z6x : Hints := ⟨[],[],[]⟩
noncomputable def Zbn (m n0 : Nat) (Zl : Int) (Zt : Nat) (Zy : Option Nat) (Z11 : List D) (Zs : Nat) (Z1b : Option Nat) (Z1o : List D) : Option D :=
 Z15 (bm 38 36) 0 1 (codeK Tg Z6x.sp ⟨0,[],false,[]⟩ (inlK Tg Z6x m 4) m Z46 (subc [1,1,0,0,0] (bodyOf Tryz.f33))) n0 ⟨[Jk,(AV.d (D.v (.int .i64 Zl))),(AV.ptr 0 0),Jk,Jk,(AV.d (D.list Zt Zy Z11)),Jk,Jk,Jk,Jk,Jk,Jk,Jk,Jk,Jk,Jk,Jk,Jk,Jk,Jk,Jk,Jk,Jk,Jk,Jk,Jk,Jk,Jk,Jk,Jk,Jk,Jk,Jk,Jk,Jk,Jk],[(Blk.d 1 [(D.list Zs Z1b Z1o)])]⟩
  (contK Tg Z6x.sp ⟨0,[],false,[]⟩ (inlK Tg Z6x m 4) m Z46 (endK Tg Tryz.f33 (fun v L => viewK L 8 v some)) [.block 0,.code (subc [1,1,1] (bodyOf Tryz.f33))])
noncomputable def Zk7 (m n0 : Nat) (Z2o : Int) (Z43 : Nat) (Z3v : Option Nat) (Z3o : List D) (Z2d : Nat) (Z6d : Option Nat) (Z7a : List D) : Option D :=
 cutK m (codeK Tg Z6x.sp ⟨0,[],false,[]⟩ (inlK Tg Z6x m 4) m Z46 (subc [1,1,0,0,0,1] (bodyOf Tryz.f33)) ⟨[Jk,(AV.d (D.v (.int .i64 Z2o))),(AV.ptr 0 0),Jk,Jk,(AV.d (D.list Z43 Z3v Z3o)),Jk,Jk,Jk,Jk,Jk,Jk,Jk,Jk,Jk,Jk,Jk,Jk,Jk,Jk,Jk,Jk,Jk,Jk,Jk,Jk,Jk,Jk,Jk,Jk,Jk,Jk,Jk,Jk,Jk,Jk],[(Blk.d 1 [(D.list Z2d Z6d Z7a)])]⟩
  (contK Tg Z6x.sp ⟨0,[],false,[]⟩ (inlK Tg Z6x m 4) m Z46 (endK Tg Tryz.f33 (fun v L => viewK L 8 v some)) [.loop (bm 38 36) 1 (subc [1,1,0,0,0] (bodyOf Tryz.f33)) n0,.block 0,.code (subc [1,1,1] (bodyOf Tryz.f33))]))
theorem Zto (m n0 : Nat) (Z2o : Int) (Z43 : Nat) (Z3v : Option Nat) (Z3o : List D) (Z2d : Nat) (Z6d : Option Nat) (Z7a : List D) : Zk7 m n0 Z2o Z43 Z3v Z3o Z2d Z6d Z7a =
 (if 0 ≤ Z2o ∧ Z2o < (Z2d : Int) then
 if ((((Int.toNat Z2o) * 20) + 1) + 17) ≤ (List.length Z7a) then
 if (List.length ((List.drop (((Int.toNat Z2o) * 20) + 1) Z7a).take 17)) = 17 then
 if (List.length Z3o) = (Z43 * 17) then
 if (1 + Z43) ≤ 1 then
 (if (0 + ((1 + Z43) * 17)) ≤ 17 ∧ (List.length Z3o) = (Z43 * 17) then
 if 0 ≤ Z2o ∧ Z2o < (Z2d : Int) then
 (rdI .i64 Z7a[(((Int.toNat Z2o) * 20) + 0)]?).bind fun x6 =>
 if (0 + ((1 + Z43) * 17)) ≤ 17 then
 Zbn m n0 x6 (1 + Z43) (some 1) (cutL 17 (List.take 17 ((List.drop (((Int.toNat Z2o) * 20) + 1) Z7a).take 17) ++ (Z3o ++ List.drop (0 + ((1 + Z43) * 17)) ((List.drop (((Int.toNat Z2o) * 20) + 1) Z7a).take 17))) 0 ((1 + Z43) * 17)) Z2d Z6d Z7a
 else none
 else none
 else none)
 else
 (if Z1w (1 + Z43) 68 ∧ (List.length Z3o) = (Z43 * 17) then
 if 0 ≤ Z2o ∧ Z2o < (Z2d : Int) then
 (rdI .i64 Z7a[(((Int.toNat Z2o) * 20) + 0)]?).bind fun x7 =>
 if (0 + ((1 + Z43) * 17)) ≤ ((1 + Z43) * 17) then
 Zbn m n0 x7 (1 + Z43) none (cutL ((1 + Z43) * 17) (((List.drop (((Int.toNat Z2o) * 20) + 1) Z7a).take 17) ++ Z3o) 0 ((1 + Z43) * 17)) Z2d Z6d Z7a
 else none
 else none
 else none)
 else none
 else none
 else none
 else none) := (Z1t m _).trans (by kernel_rfl)
theorem Zvs (m n0 : Nat) (Zl : Int) (Zt : Nat) (Zy : Option Nat) (Z11 : List D) (Zs : Nat) (Z1b : Option Nat) (Z1o : List D) : Zbn m (n0 + 1) Zl Zt Zy Z11 Zs Z1b Z1o =
 (cond (decide (Zl ≥ (0 : Int)))
 (cond (decide (Zl < (Zs : Int)))
 (cond (decide ((Zt : Int) < (100 : Int)))
 (Zk7 m n0 Zl Zt Zy Z11 Zs Z1b Z1o)
 (some (D.list Zt Zy Z11)))
 (some (D.list Zt Zy Z11)))
 (some (D.list Zt Zy Z11))) := by kernel_rfl
noncomputable def Z167 (m : Nat) (a0_0n : Nat) (a0_0c : Option Nat) (a0_0 : List D) (a1 : Int) : Option D :=
 Zbn m m a1 0 (some 0) [] a0_0n a0_0c a0_0
theorem Z1am (m : Nat) (a0_0n : Nat) (a0_0c : Option Nat) (a0_0 : List D) (a1 : Int) : funD Tg Z6x m 4 Z46 Tryz.f33 [(D.agg [(D.list a0_0n a0_0c a0_0)]),(D.v (.int .i64 a1))] = Z167 m a0_0n a0_0c a0_0 a1 := by kernel_rfl
theorem Z1f9 : Enters Tg 33 := ⟨Tryz.f33,Tryz.func33,by kernel_rfl,by kernel_rfl⟩
theorem Z1fa {ds : List D} {d : D} (h : funD Tg Z6x M 4 Z46 Tryz.f33 ds = some d) : DataSem Tg 33 ds d := Z8 (H := Z6x) SpOk.nil mixed InlOk.nil Tryz.func33 Z1f9 h
noncomputable def Z2w : List D → Option D
  | [.agg [.list a0_0n a0_0c a0_0],.v (.int .i64 a1)] => Z167 M a0_0n a0_0c a0_0 a1
  | _ => none
theorem Zus : ∀ ds d,Z2w ds = some d → DataSem Tg 33 ds d := by
  intro ds d h
  unfold Z2w at h
  split at h
  · exact Z1fa ((Z1am M _ _ _ _).trans h)
  · cases h

def Z4s : FnH := ⟨[(4,⟨(bm 35 26),[],(some 0)⟩)],[]⟩
noncomputable def Z7u : Hints := ⟨[],[],[]⟩
noncomputable def Zf9 (m n0 : Nat) (Zl : Nat) (Zt : Option Nat) (Zy : List D) (Z11 : Nat) (Zs : Option Nat) (Z1b : List D) (Z1o : Int) : Option D :=
 Z15 (bm 35 26) 0 0 (codeK Tg Z7u.sp ⟨0,[],false,[]⟩ (inlK Tg Z7u m 4) m Z4s (subc [1,1,0,1,0,0] (bodyOf Tryz.f45))) n0 ⟨[(AV.d (D.list Zl Zt Zy)),(AV.d (D.list Z11 Zs Z1b)),Jk,Jk,Jk,(AV.d (D.v (.int .i64 Z1o))),Jk,Jk,Jk,Jk,Jk,Jk,Jk,Jk,Jk,Jk,Jk,Jk,Jk,Jk,Jk,Jk,Jk,Jk,Jk,Jk],[]⟩
  (contK Tg Z7u.sp ⟨0,[],false,[]⟩ (inlK Tg Z7u m 4) m Z4s (endK Tg Tryz.f45 (fun v L => viewK L 8 v some)) [.block 0,.code (subc [1,1,1] (bodyOf Tryz.f45))])
theorem Z11d (m n0 : Nat) (Zl : Nat) (Zt : Option Nat) (Zy : List D) (Z11 : Nat) (Zs : Option Nat) (Z1b : List D) (Z1o : Int) : Zf9 m (n0 + 1) Zl Zt Zy Z11 Zs Z1b Z1o =
 (cond (decide (Z1o < (Zl : Int)))
 (if 0 ≤ Z1o ∧ Z1o < (Zl : Int) then
 if (((Int.toNat Z1o) * 17) + 17) ≤ (List.length Zy) then
 if 0 ≤ Z1o ∧ Z1o < (Z11 : Int) then
 if (((Int.toNat Z1o) * 17) + 17) ≤ (List.length Z1b) then
 (cellsEq [.int,.int,.int,.int,.int,.int,.int,.int,.int,.int,.int,.int,.int,.int,.int,.int,.int] ((List.drop ((Int.toNat Z1o) * 17) Zy).take 17) ((List.drop ((Int.toNat Z1o) * 17) Z1b).take 17)).bind fun b3 =>
 cond (!b3)
 (some zI)
 (Zf9 m n0 Zl Zt Zy Z11 Zs Z1b (IntKind.wrap .i64 (Z1o + (1 : Int))))
 else none
 else none
 else none
 else none)
 (some (D.v (.int .i64 (1 : Int))))) := by kernel_rfl
noncomputable def Zk8 (m : Nat) (a0n : Nat) (a0c : Option Nat) (a0 : List D) (a1n : Nat) (a1c : Option Nat) (a1 : List D) : Option D :=
 cond ((a0n : Int) != (a1n : Int))
 (some zI)
 (Zf9 m m a0n a0c a0 a1n a1c a1 (0 : Int))
theorem Z13j (m : Nat) (a0n : Nat) (a0c : Option Nat) (a0 : List D) (a1n : Nat) (a1c : Option Nat) (a1 : List D) : funD Tg Z7u m 4 Z4s Tryz.f45 [(D.list a0n a0c a0),(D.list a1n a1c a1)] = Zk8 m a0n a0c a0 a1n a1c a1 := by kernel_rfl
theorem Z17h : Enters Tg 45 := ⟨Tryz.f45,Tryz.func45,by kernel_rfl,by kernel_rfl⟩
theorem Z17i {ds : List D} {d : D} (h : funD Tg Z7u M 4 Z4s Tryz.f45 ds = some d) : DataSem Tg 45 ds d := Z8 (H := Z7u) SpOk.nil mixed InlOk.nil Tryz.func45 Z17h h
noncomputable def Z78 : List D → Option D
  | [.list a0n a0c a0,.list a1n a1c a1] => Zk8 M a0n a0c a0 a1n a1c a1
  | _ => none
theorem Zvt : ∀ ds d,Z78 ds = some d → DataSem Tg 45 ds d := by
  intro ds d h
  unfold Z78 at h
  split at h
  · exact Z17i ((Z13j M _ _ _ _ _ _).trans h)
  · cases h

def Z6h : FnH := ⟨[(2,⟨(bm 38 20),[],(some 1)⟩)],[]⟩
noncomputable def Zei : Hints := ⟨[(33,Z2w),(45,Z78)],[],[]⟩
noncomputable def Zm1 (m n0 : Nat) (Zl : Nat) (Zt : Option Nat) (Zy : List D) (Z11 : Int) (Zs : Nat) (Z1b : Option Nat) (Z1o : List D) : Option D :=
 Z15 (bm 38 20) 0 1 (codeK Tg Zei.sp ⟨0,[],false,[]⟩ (inlK Tg Zei m 4) m Z6h (subc [1,0,1,0,0] (bodyOf Tryz.f32))) n0 ⟨[Jk,(AV.d (D.list Zl Zt Zy)),(AV.ptr 0 0),Jk,Jk,(AV.d (D.v (.int .i64 Z11))),Jk,Jk,Jk,Jk,Jk,Jk,Jk,Jk,Jk,Jk,Jk,Jk,Jk,Jk],[(Blk.d 1 [(D.list Zs Z1b Z1o)])]⟩
  (contK Tg Zei.sp ⟨0,[],false,[]⟩ (inlK Tg Zei m 4) m Z6h (endK Tg Tryz.f32 (fun v L => viewK L 8 v some)) [.block 0,.code (subc [1,1] (bodyOf Tryz.f32))])
theorem Z17j (m n0 : Nat) (Zl : Nat) (Zt : Option Nat) (Zy : List D) (Z11 : Int) (Zs : Nat) (Z1b : Option Nat) (Z1o : List D) : Zm1 m (n0 + 1) Zl Zt Zy Z11 Zs Z1b Z1o =
 (cond (decide (Z11 < (Zs : Int)))
 ((Z2w [(D.agg [(D.list Zs Z1b Z1o)]),(D.v (.int .i64 Z11))]).bind fun d9 =>
 (rdL (some d9)).bind fun q10 =>
 (Z78 [(D.list q10.n q10.cap q10.cs),(D.list Zl Zt Zy)]).bind fun d11 =>
 (rdI .i64 (some d11)).bind fun x12 =>
 cond (x12 == (1 : Int))
 (some (D.v (.int .i64 Z11)))
 (Zm1 m n0 Zl Zt Zy (IntKind.wrap .i64 (Z11 + (1 : Int))) Zs Z1b Z1o))
 (some (D.v (.int .i64 (-1 : Int))))) := by kernel_rfl
noncomputable def Zrw (m : Nat) (a0_0n : Nat) (a0_0c : Option Nat) (a0_0 : List D) (a1n : Nat) (a1c : Option Nat) (a1 : List D) : Option D :=
 Zm1 m m a1n a1c a1 (0 : Int) a0_0n a0_0c a0_0
theorem Z1an (m : Nat) (a0_0n : Nat) (a0_0c : Option Nat) (a0_0 : List D) (a1n : Nat) (a1c : Option Nat) (a1 : List D) : funD Tg Zei m 4 Z6h Tryz.f32 [(D.agg [(D.list a0_0n a0_0c a0_0)]),(D.list a1n a1c a1)] = Zrw m a0_0n a0_0c a0_0 a1n a1c a1 := by kernel_rfl
theorem Z1fb : Enters Tg 32 := ⟨Tryz.f32,Tryz.func32,by kernel_rfl,by kernel_rfl⟩
theorem Z1fc {ds : List D} {d : D} (h : funD Tg Zei M 4 Z6h Tryz.f32 ds = some d) : DataSem Tg 32 ds d := Z8 (H := Zei) (SpOk.cons Zus (SpOk.cons Zvt SpOk.nil)) mixed InlOk.nil Tryz.func32 Z1fb h
noncomputable def Z38 : List D → Option D
  | [.agg [.list a0_0n a0_0c a0_0],.list a1n a1c a1] => Zrw M a0_0n a0_0c a0_0 a1n a1c a1
  | _ => none
theorem Z13k : ∀ ds d,Z38 ds = some d → DataSem Tg 32 ds d := by
  intro ds d h
  unfold Z38 at h
  split at h
  · exact Z1fc ((Z1an M _ _ _ _ _ _).trans h)
  · cases h

def Z5s : FnH := ⟨[(4,⟨(bm 44 89),[],(some 2)⟩)],[(3,⟨(bm 12 89),[],(some 2)⟩)]⟩
noncomputable def Zat : Hints := ⟨[],[],[]⟩
noncomputable def Z17k (m : Nat) (Z2o : List D) (Z43 : List D) : Option D :=
 cutK m (codeK Tg Zat.sp ⟨0,[],false,[]⟩ (inlK Tg Zat m 4) m Z5s (subc [1,1] (bodyOf Tryz.f107)) ⟨[Jk,Jk,(AV.ptr 0 0),(AV.ptr 1 0),Jk,Jk,Jk,Jk,Jk,Jk,Jk,Jk,Jk,Jk,Jk,Jk,Jk,Jk,Jk,Jk,Jk,Jk,Jk,Jk,Jk,Jk,Jk,Jk,Jk,Jk,Jk,Jk,Jk,Jk,Jk,Jk,Jk,Jk,Jk,Jk,Jk,Jk,Jk,Jk,Jk,Jk,Jk,Jk,Jk,Jk,Jk,Jk,Jk,Jk,Jk,Jk,Jk,Jk,Jk,Jk,Jk,Jk,Jk,Jk,Jk,Jk,Jk,Jk,Jk,Jk,Jk,Jk,Jk,Jk,Jk,Jk,Jk,Jk,Jk,Jk,Jk,Jk,Jk,Jk,Jk,Jk,Jk,Jk,Jk],[(Blk.d 27 Z2o),(Blk.d 27 Z43)]⟩
  (contK Tg Zat.sp ⟨0,[],false,[]⟩ (inlK Tg Zat m 4) m Z5s (endK Tg Tryz.f107 (fun v L => viewK L 8 v some)) []))
noncomputable def Z13l (m : Nat) (a0 : List D) (a1 : List D) : Option D :=
 if (List.length a0) = 27 then
 if (List.length a1) = 27 then
 (rdI .u8 a0[0]?).bind fun x1 =>
 (rdI .u8 a1[0]?).bind fun x2 =>
 cond (x1 != x2)
 (some (D.v (.bool false)))
 ((rdS a0[1]?).bind fun s3 =>
 (rdS a1[1]?).bind fun s4 =>
 cond (!(ByteArray.toList s3 == ByteArray.toList s4))
 (some (D.v (.bool false)))
 ((rdB a0[2]?).bind fun b5 =>
 (rdB a1[2]?).bind fun b6 =>
 cond (!(b5 == b6))
 (some (D.v (.bool false)))
 ((cellsEq [.int,.str] ((List.drop 3 a0).take 2) ((List.drop 3 a1).take 2)).bind fun b7 =>
 cond (!b7)
 (some (D.v (.bool false)))
 ((rdB a0[6]?).bind fun b8 =>
 (rdB a1[6]?).bind fun b9 =>
 cond (!(b8 == b9))
 (some (D.v (.bool false)))
 ((cellsEq [.int,.str] ((List.drop 7 a0).take 2) ((List.drop 7 a1).take 2)).bind fun b10 =>
 cond (!b10)
 (some (D.v (.bool false)))
 ((cellsEq [.int,.int,.int,.int,.int,.int,.int,.int,.int,.int,.int,.int,.int,.int,.int,.int,.int] ((List.drop 9 a0).take 17) ((List.drop 9 a1).take 17)).bind fun b11 =>
 cond (!b11)
 (some (D.v (.bool false)))
 ((rdL a0[26]?).bind fun q12 =>
 if (List.length q12.cs) = q12.n then
 (bytesOf q12.cs).bind fun l13 =>
 (rdL a1[26]?).bind fun q14 =>
 if (List.length q14.cs) = q14.n then
 (bytesOf q14.cs).bind fun l15 =>
 cond (!(ByteArray.toList (ByteArray.mk (List.toArray l13)) == ByteArray.toList (ByteArray.mk (List.toArray l15))))
 (some (D.v (.bool false)))
 ((rdL a0[5]?).bind fun q16 =>
 (rdL a1[5]?).bind fun q17 =>
 cond ((q16.n : Int) != (q17.n : Int))
 (some (D.v (.bool false)))
 (Z17k m a0 a1))
 else none
 else none)))))))
 else none
 else none
theorem Z17l (m : Nat) (a0 : List D) (a1 : List D) : funD Tg Zat m 4 Z5s Tryz.f107 [(D.agg a0),(D.agg a1)] = Z13l m a0 a1 := by kernel_rfl
theorem Z1c4 : Enters Tg 107 := ⟨Tryz.f107,Tryz.func107,by kernel_rfl,by kernel_rfl⟩
theorem Z1c5 {ds : List D} {d : D} (h : funD Tg Zat M 4 Z5s Tryz.f107 ds = some d) : DataSem Tg 107 ds d := Z8 (H := Zat) SpOk.nil mixed InlOk.nil Tryz.func107 Z1c4 h
noncomputable def Z6i : List D → Option D
  | [.agg a0,.agg a1] => Z13l M a0 a1
  | _ => none
theorem Z1c6 : ∀ ds d,Z6i ds = some d → DataSem Tg 107 ds d := by
  intro ds d h
  unfold Z6i at h
  split at h
  · exact Z1c5 ((Z17l M _ _).trans h)
  · cases h

def Z6j : FnH := ⟨[(4,⟨(bm 35 27),[],(some 0)⟩)],[]⟩
noncomputable def Zej : Hints := ⟨[(107,Z6i)],[],[]⟩
noncomputable def Zm2 (m n0 : Nat) (Zl : Nat) (Zt : Option Nat) (Zy : List D) (Z11 : Nat) (Zs : Option Nat) (Z1b : List D) (Z1o : Int) : Option D :=
 Z15 (bm 35 27) 0 0 (codeK Tg Zej.sp ⟨0,[],false,[]⟩ (inlK Tg Zej m 4) m Z6j (subc [1,1,0,1,0,0] (bodyOf Tryz.f76))) n0 ⟨[(AV.d (D.list Zl Zt Zy)),(AV.d (D.list Z11 Zs Z1b)),Jk,Jk,Jk,(AV.d (D.v (.int .i64 Z1o))),Jk,Jk,Jk,Jk,Jk,Jk,Jk,Jk,Jk,Jk,Jk,Jk,Jk,Jk,Jk,Jk,Jk,Jk,Jk,Jk,Jk],[]⟩
  (contK Tg Zej.sp ⟨0,[],false,[]⟩ (inlK Tg Zej m 4) m Z6j (endK Tg Tryz.f76 (fun v L => viewK L 8 v some)) [.block 0,.code (subc [1,1,1] (bodyOf Tryz.f76))])
theorem Z17m (m n0 : Nat) (Zl : Nat) (Zt : Option Nat) (Zy : List D) (Z11 : Nat) (Zs : Option Nat) (Z1b : List D) (Z1o : Int) : Zm2 m (n0 + 1) Zl Zt Zy Z11 Zs Z1b Z1o =
 (cond (decide (Z1o < (Zl : Int)))
 (if 0 ≤ Z1o ∧ Z1o < (Zl : Int) then
 if (((Int.toNat Z1o) * 27) + 27) ≤ (List.length Zy) then
 if 0 ≤ Z1o ∧ Z1o < (Z11 : Int) then
 if (((Int.toNat Z1o) * 27) + 27) ≤ (List.length Z1b) then
 (Z6i [(D.agg ((List.drop ((Int.toNat Z1o) * 27) Zy).take 27)),(D.agg ((List.drop ((Int.toNat Z1o) * 27) Z1b).take 27))]).bind fun d5 =>
 (rdB (some d5)).bind fun b6 =>
 cond (!b6)
 (some (D.v (.bool false)))
 (Zm2 m n0 Zl Zt Zy Z11 Zs Z1b (IntKind.wrap .i64 (Z1o + (1 : Int))))
 else none
 else none
 else none
 else none)
 (some (D.v (.bool true)))) := by kernel_rfl
noncomputable def Zrx (m : Nat) (a0n : Nat) (a0c : Option Nat) (a0 : List D) (a1n : Nat) (a1c : Option Nat) (a1 : List D) : Option D :=
 cond ((a0n : Int) != (a1n : Int))
 (some (D.v (.bool false)))
 (Zm2 m m a0n a0c a0 a1n a1c a1 (0 : Int))
theorem Z1ao (m : Nat) (a0n : Nat) (a0c : Option Nat) (a0 : List D) (a1n : Nat) (a1c : Option Nat) (a1 : List D) : funD Tg Zej m 4 Z6j Tryz.f76 [(D.list a0n a0c a0),(D.list a1n a1c a1)] = Zrx m a0n a0c a0 a1n a1c a1 := by kernel_rfl
theorem Z1fd : Enters Tg 76 := ⟨Tryz.f76,Tryz.func76,by kernel_rfl,by kernel_rfl⟩
theorem Z1fe {ds : List D} {d : D} (h : funD Tg Zej M 4 Z6j Tryz.f76 ds = some d) : DataSem Tg 76 ds d := Z8 (H := Zej) (SpOk.cons Z1c6 SpOk.nil) mixed InlOk.nil Tryz.func76 Z1fd h
noncomputable def Zk9 : List D → Option D
  | [.list a0n a0c a0,.list a1n a1c a1] => Zrx M a0n a0c a0 a1n a1c a1
  | _ => none
theorem Z1ff : ∀ ds d,Zk9 ds = some d → DataSem Tg 76 ds d := by
  intro ds d h
  unfold Zk9 at h
  split at h
  · exact Z1fe ((Z1ao M _ _ _ _ _ _).trans h)
  · cases h

def Z47 : FnH := ⟨[(4,⟨(bm 44 80),[],(some 2)⟩)],[(5,⟨(bm 44 80),[],(some 2)⟩)]⟩
noncomputable def Z6y : Hints := ⟨[(45,Z78),(76,Zk9)],[],[]⟩
noncomputable def Zm3 (m n0 : Nat) (Zl : Int) (Zt : Nat) (Zy : Option Nat) (Z11 : List D) (Zs : Nat) (Z1b : Option Nat) (Z1o : List D) : Option D :=
 Z15 (bm 44 80) 0 2 (codeK Tg Z6y.sp ⟨0,[],false,[]⟩ (inlK Tg Z6y m 4) m Z47 (subc [1,1,0,1,0,0] (bodyOf Tryz.f31))) n0 ⟨[Jk,Jk,(AV.ptr 0 0),(AV.ptr 1 0),Jk,(AV.d (D.v (.int .i64 Zl))),Jk,Jk,Jk,Jk,Jk,Jk,Jk,Jk,Jk,Jk,Jk,Jk,Jk,Jk,Jk,Jk,Jk,Jk,Jk,Jk,Jk,Jk,Jk,Jk,Jk,Jk,Jk,Jk,Jk,Jk,Jk,Jk,Jk,Jk,Jk,Jk,Jk,Jk,Jk,Jk,Jk,Jk,Jk,Jk,Jk,Jk,Jk,Jk,Jk,Jk,Jk,Jk,Jk,Jk,Jk,Jk,Jk,Jk,Jk,Jk,Jk,Jk,Jk,Jk,Jk,Jk,Jk,Jk,Jk,Jk,Jk,Jk,Jk,Jk],[(Blk.d 1 [(D.list Zt Zy Z11)]),(Blk.d 1 [(D.list Zs Z1b Z1o)])]⟩
  (contK Tg Z6y.sp ⟨0,[],false,[]⟩ (inlK Tg Z6y m 4) m Z47 (endK Tg Tryz.f31 (fun v L => viewK L 8 v some)) [.block 0,.code (subc [1,1,1] (bodyOf Tryz.f31))])
noncomputable def Zy1 (m n0 : Nat) (Z2o : Int) (Z43 : Nat) (Z3v : Option Nat) (Z3o : List D) (Z2d : Nat) (Z6d : Option Nat) (Z7a : List D) : Option D :=
 cutK m (codeK Tg Z6y.sp ⟨0,[],false,[]⟩ (inlK Tg Z6y m 4) m Z47 (subc [1,1,0,1,0,0,1,1] (bodyOf Tryz.f31)) ⟨[Jk,Jk,(AV.ptr 0 0),(AV.ptr 1 0),Jk,(AV.d (D.v (.int .i64 Z2o))),Jk,Jk,Jk,Jk,Jk,Jk,Jk,Jk,Jk,Jk,Jk,Jk,Jk,Jk,Jk,Jk,Jk,Jk,Jk,Jk,Jk,Jk,Jk,Jk,Jk,Jk,Jk,Jk,Jk,Jk,Jk,Jk,Jk,Jk,Jk,Jk,Jk,Jk,Jk,Jk,Jk,Jk,Jk,Jk,Jk,Jk,Jk,Jk,Jk,Jk,Jk,Jk,Jk,Jk,Jk,Jk,Jk,Jk,Jk,Jk,Jk,Jk,Jk,Jk,Jk,Jk,Jk,Jk,Jk,Jk,Jk,Jk,Jk,Jk],[(Blk.d 1 [(D.list Z43 Z3v Z3o)]),(Blk.d 1 [(D.list Z2d Z6d Z7a)])]⟩
  (contK Tg Z6y.sp ⟨0,[],false,[]⟩ (inlK Tg Z6y m 4) m Z47 (endK Tg Tryz.f31 (fun v L => viewK L 8 v some)) [.loop (bm 44 80) 2 (subc [1,1,0,1,0,0] (bodyOf Tryz.f31)) n0,.block 0,.code (subc [1,1,1] (bodyOf Tryz.f31))]))
theorem Z15k (m n0 : Nat) (Z2o : Int) (Z43 : Nat) (Z3v : Option Nat) (Z3o : List D) (Z2d : Nat) (Z6d : Option Nat) (Z7a : List D) : Zy1 m n0 Z2o Z43 Z3v Z3o Z2d Z6d Z7a =
 (Zm3 m n0 (IntKind.wrap .i64 (Z2o + (1 : Int))) Z43 Z3v Z3o Z2d Z6d Z7a) := (Z1t m _).trans (by kernel_rfl)
theorem Z17n (m n0 : Nat) (Zl : Int) (Zt : Nat) (Zy : Option Nat) (Z11 : List D) (Zs : Nat) (Z1b : Option Nat) (Z1o : List D) : Zm3 m (n0 + 1) Zl Zt Zy Z11 Zs Z1b Z1o =
 (cond (decide (Zl < (Zt : Int)))
 (if 0 ≤ Zl ∧ Zl < (Zt : Int) then
 (rdI .i64 Z11[(((Int.toNat Zl) * 20) + 0)]?).bind fun x23 =>
 if 0 ≤ Zl ∧ Zl < (Zs : Int) then
 (rdI .i64 Z1o[(((Int.toNat Zl) * 20) + 0)]?).bind fun x24 =>
 cond (x23 != x24)
 (some zI)
 (if 0 ≤ Zl ∧ Zl < (Zt : Int) then
 if ((((Int.toNat Zl) * 20) + 1) + 17) ≤ (List.length Z11) then
 if 0 ≤ Zl ∧ Zl < (Zs : Int) then
 if ((((Int.toNat Zl) * 20) + 1) + 17) ≤ (List.length Z1o) then
 (cellsEq [.int,.int,.int,.int,.int,.int,.int,.int,.int,.int,.int,.int,.int,.int,.int,.int,.int] ((List.drop (((Int.toNat Zl) * 20) + 1) Z11).take 17) ((List.drop (((Int.toNat Zl) * 20) + 1) Z1o).take 17)).bind fun b25 =>
 cond (!b25)
 (some zI)
 (if 0 ≤ Zl ∧ Zl < (Zt : Int) then
 (rdL Z11[(((Int.toNat Zl) * 20) + 18)]?).bind fun q26 =>
 if 0 ≤ Zl ∧ Zl < (Zs : Int) then
 (rdL Z1o[(((Int.toNat Zl) * 20) + 18)]?).bind fun q27 =>
 (Z78 [(D.list q26.n q26.cap q26.cs),(D.list q27.n q27.cap q27.cs)]).bind fun d28 =>
 (rdI .i64 (some d28)).bind fun x29 =>
 cond (x29 == (0 : Int))
 (some zI)
 (if 0 ≤ Zl ∧ Zl < (Zt : Int) then
 (rdL Z11[(((Int.toNat Zl) * 20) + 19)]?).bind fun q30 =>
 if 0 ≤ Zl ∧ Zl < (Zs : Int) then
 (rdL Z1o[(((Int.toNat Zl) * 20) + 19)]?).bind fun q31 =>
 (Zk9 [(D.list q30.n q30.cap q30.cs),(D.list q31.n q31.cap q31.cs)]).bind fun d32 =>
 (rdB (some d32)).bind fun b33 =>
 cond (!b33)
 (some zI)
 (Zy1 m n0 Zl Zt Zy Z11 Zs Z1b Z1o)
 else none
 else none)
 else none
 else none)
 else none
 else none
 else none
 else none)
 else none
 else none)
 (some (D.v (.int .i64 (1 : Int))))) := by kernel_rfl
noncomputable def Zry (m : Nat) (a0_0n : Nat) (a0_0c : Option Nat) (a0_0 : List D) (a1_0n : Nat) (a1_0c : Option Nat) (a1_0 : List D) : Option D :=
 cond ((a0_0n : Int) != (a1_0n : Int))
 (some zI)
 (Zm3 m m (0 : Int) a0_0n a0_0c a0_0 a1_0n a1_0c a1_0)
theorem Z1ap (m : Nat) (a0_0n : Nat) (a0_0c : Option Nat) (a0_0 : List D) (a1_0n : Nat) (a1_0c : Option Nat) (a1_0 : List D) : funD Tg Z6y m 4 Z47 Tryz.f31 [(D.agg [(D.list a0_0n a0_0c a0_0)]),(D.agg [(D.list a1_0n a1_0c a1_0)])] = Zry m a0_0n a0_0c a0_0 a1_0n a1_0c a1_0 := by kernel_rfl
theorem Z1fg : Enters Tg 31 := ⟨Tryz.f31,Tryz.func31,by kernel_rfl,by kernel_rfl⟩
theorem Z1fh {ds : List D} {d : D} (h : funD Tg Z6y M 4 Z47 Tryz.f31 ds = some d) : DataSem Tg 31 ds d := Z8 (H := Z6y) (SpOk.cons Zvt (SpOk.cons Z1ff SpOk.nil)) mixed InlOk.nil Tryz.func31 Z1fg h
noncomputable def Z2x : List D → Option D
  | [.agg [.list a0_0n a0_0c a0_0],.agg [.list a1_0n a1_0c a1_0]] => Zry M a0_0n a0_0c a0_0 a1_0n a1_0c a1_0
  | _ => none
theorem Zut : ∀ ds d,Z2x ds = some d → DataSem Tg 31 ds d := by
  intro ds d h
  unfold Z2x at h
  split at h
  · exact Z1fh ((Z1ap M _ _ _ _ _ _).trans h)
  · cases h

def Z17 : FnH := ⟨[(3,⟨(bm 102 31),[(5,1)],(some 2)⟩)],[(4,⟨(bm 102 31),[],(some 3)⟩)]⟩
noncomputable def Z1z : Hints := ⟨[(34,Z29),(44,Z69)],[],[]⟩
noncomputable def Z7v (m n0 : Nat) (Zl : Int) (Zt : Nat) (Zy : Int) (Z11 : Nat) (Zs : Option Nat) (Z1b : List D) (Z1o : Nat) (Z2r : List D) : Option D :=
 Z15 (bm 102 31) 0 2 (codeK Tg Z1z.sp ⟨0,[],false,[]⟩ (inlK Tg Z1z m 4) m Z17 (subc [1,1,0,1,0,0] (bodyOf Tryz.f22))) n0 ⟨[Jk,(AV.d (D.v (.int .i64 Zl))),(AV.ptr 0 0),Jk,Jk,(AV.sl 1 0 Zt none 1),(AV.d (D.v (.int .i64 Zy))),Jk,Jk,Jk,Jk,Jk,Jk,Jk,Jk,Jk,Jk,Jk,Jk,Jk,Jk,Jk,Jk,Jk,Jk,Jk,Jk,Jk,Jk,Jk,Jk],[(Blk.d 1 [(D.list Z11 Zs Z1b)]),(Blk.d Z1o Z2r)]⟩
  (contK Tg Z1z.sp ⟨0,[],false,[]⟩ (inlK Tg Z1z m 4) m Z17 (endK Tg Tryz.f22 (fun v L => viewK L 8 v some)) [.block 0,.code (subc [1,1,1] (bodyOf Tryz.f22))])
noncomputable def Zoc (m n0 : Nat) (Z2o : Int) (Z43 : Nat) (Z3v : Int) (Z3o : Nat) (Z2d : Option Nat) (Z6d : List D) (Z7a : Nat) (Zki : List D) (Zp1 : Int) : Option D :=
 cutK m (codeK Tg Z1z.sp ⟨0,[],false,[]⟩ (inlK Tg Z1z m 4) m Z17 (subc [1,1,0,1,0,0,1,1] (bodyOf Tryz.f22)) ⟨[Jk,(AV.d (D.v (.int .i64 Z2o))),(AV.ptr 0 0),Jk,Jk,(AV.sl 1 0 Z43 none 1),(AV.d (D.v (.int .i64 Z3v))),Jk,Jk,Jk,Jk,Jk,Jk,Jk,Jk,Jk,Jk,Jk,Jk,Jk,Jk,Jk,Jk,Jk,Jk,Jk,Jk,Jk,Jk,Jk,Jk],[(Blk.d 1 [(D.list Z3o Z2d Z6d)]),(Blk.d Z7a Zki),(Blk.d 1 [(D.v (.int .i64 Zp1))])]⟩
  (contK Tg Z1z.sp ⟨0,[],false,[]⟩ (inlK Tg Z1z m 4) m Z17 (endK Tg Tryz.f22 (fun v L => viewK L 8 v some)) [.loop (bm 102 31) 2 (subc [1,1,0,1,0,0] (bodyOf Tryz.f22)) n0,.block 0,.code (subc [1,1,1] (bodyOf Tryz.f22))]))
theorem Zw4 (m n0 : Nat) (Z2o : Int) (Z43 : Nat) (Z3v : Int) (Z3o : Nat) (Z2d : Option Nat) (Z6d : List D) (Z7a : Nat) (Zki : List D) (Zp1 : Int) : Zoc m n0 Z2o Z43 Z3v Z3o Z2d Z6d Z7a Zki Zp1 =
 (Z7v m n0 Z2o Z43 (IntKind.wrap .i64 (Z3v + (1 : Int))) Z3o Z2d Z6d Z7a Zki) := (Z1t m _).trans (by kernel_rfl)
noncomputable def Zc1 (m n0 : Nat) (Z8i : Int) (Z9q : Nat) (Z9r : Int) (Za9 : Nat) (Z80 : Option Nat) (Z8s : List D) (Zf3 : Nat) (Zif : List D) : Option D :=
 cutK m (codeK Tg Z1z.sp ⟨0,[],false,[]⟩ (inlK Tg Z1z m 4) m Z17 (subc [1,1,0,1,0,0,1,1] (bodyOf Tryz.f22)) ⟨[Jk,(AV.d (D.v (.int .i64 Z8i))),(AV.ptr 0 0),Jk,Jk,(AV.sl 1 0 Z9q none 1),(AV.d (D.v (.int .i64 Z9r))),Jk,Jk,Jk,Jk,Jk,Jk,Jk,Jk,Jk,Jk,Jk,Jk,Jk,Jk,Jk,Jk,Jk,Jk,Jk,Jk,Jk,Jk,Jk,Jk],[(Blk.d 1 [(D.list Za9 Z80 Z8s)]),(Blk.d Zf3 Zif)]⟩
  (contK Tg Z1z.sp ⟨0,[],false,[]⟩ (inlK Tg Z1z m 4) m Z17 (endK Tg Tryz.f22 (fun v L => viewK L 8 v some)) [.loop (bm 102 31) 2 (subc [1,1,0,1,0,0] (bodyOf Tryz.f22)) n0,.block 0,.code (subc [1,1,1] (bodyOf Tryz.f22))]))
theorem Zi5 (m n0 : Nat) (Z8i : Int) (Z9q : Nat) (Z9r : Int) (Za9 : Nat) (Z80 : Option Nat) (Z8s : List D) (Zf3 : Nat) (Zif : List D) : Zc1 m n0 Z8i Z9q Z9r Za9 Z80 Z8s Zf3 Zif =
 (Z7v m n0 Z8i Z9q (IntKind.wrap .i64 (Z9r + (1 : Int))) Za9 Z80 Z8s Zf3 Zif) := (Z1t m _).trans (by kernel_rfl)
theorem Zy2 (m n0 : Nat) (Zl : Int) (Zt : Nat) (Zy : Int) (Z11 : Nat) (Zs : Option Nat) (Z1b : List D) (Z1o : Nat) (Z2r : List D) : Z7v m (n0 + 1) Zl Zt Zy Z11 Zs Z1b Z1o Z2r =
 (cond (decide (Zy < (Z11 : Int)))
 ((Z29 [(D.agg [(D.list Z11 Zs Z1b)]),(D.v (.int .i64 Zy))]).bind fun d9 =>
 (rdI .i64 (some d9)).bind fun x10 =>
 cond (decide (x10 < Zl))
 ((Z69 [(D.agg [(D.list Z11 Zs Z1b)]),(D.v (.int .i64 Zy))]).bind fun d11 =>
 (rdL (some d11)).bind fun q12 =>
 cond ((q12.n : Int) == (0 : Int))
 (if ownB ⟨0,[],false,[]⟩ 1 = true ∧ Z1o = (Zt * 1) ∧ Z1w (Zt + 1) 8 ∧ 1 = 1 then
 Zoc m n0 Zl (Zt + 1) Zy Z11 Zs Z1b ((Zt + 1) * 1) (Z2r ++ [(D.v (.int .i64 Zy))]) Zy
 else none)
 (Zc1 m n0 Zl Zt Zy Z11 Zs Z1b Z1o Z2r))
 (Zc1 m n0 Zl Zt Zy Z11 Zs Z1b Z1o Z2r))
 (if (0 + (Zt * 1)) ≤ Z1o then
 some (D.list Zt none (cutL Z1o Z2r 0 (Zt * 1)))
 else none)) := by kernel_rfl
noncomputable def Zfa (m : Nat) (a0_0n : Nat) (a0_0c : Option Nat) (a0_0 : List D) (a1 : Int) : Option D :=
 Z7v m m a1 0 (0 : Int) a0_0n a0_0c a0_0 0 []
theorem Zz3 (m : Nat) (a0_0n : Nat) (a0_0c : Option Nat) (a0_0 : List D) (a1 : Int) : funD Tg Z1z m 4 Z17 Tryz.f22 [(D.agg [(D.list a0_0n a0_0c a0_0)]),(D.v (.int .i64 a1))] = Zfa m a0_0n a0_0c a0_0 a1 := by kernel_rfl
theorem Z13m : Enters Tg 22 := ⟨Tryz.f22,Tryz.func22,by kernel_rfl,by kernel_rfl⟩
theorem Z13n {ds : List D} {d : D} (h : funD Tg Z1z M 4 Z17 Tryz.f22 ds = some d) : DataSem Tg 22 ds d := Z8 (H := Z1z) (SpOk.cons Zgh (SpOk.cons Ztc SpOk.nil)) mixed InlOk.nil Tryz.func22 Z13m h
noncomputable def Z5t : List D → Option D
  | [.agg [.list a0_0n a0_0c a0_0],.v (.int .i64 a1)] => Zfa M a0_0n a0_0c a0_0 a1
  | _ => none
theorem Zrz : ∀ ds d,Z5t ds = some d → DataSem Tg 22 ds d := by
  intro ds d h
  unfold Z5t at h
  split at h
  · exact Z13n ((Zz3 M _ _ _ _).trans h)
  · cases h

def Z5u : FnH := ⟨[(1,⟨(bm 22 17),[],(some 2)⟩)],[]⟩
noncomputable def Zau : Hints := ⟨[(22,Z5t),(28,Z7t)],[],[]⟩
noncomputable def Zka (m n0 : Nat) (Zl : Int) (Zt : List D) : Option D :=
 Z15 (bm 22 17) 0 2 (codeK Tg Zau.sp ⟨0,[],false,[]⟩ (inlK Tg Zau m 4) m Z5u (subc [1,0,0] (bodyOf Tryz.f30))) n0 ⟨[Jk,(AV.d (D.v (.int .i64 Zl))),(AV.ptr 0 0),Jk,(AV.ptr 1 0),Jk,Jk,Jk,Jk,Jk,Jk,Jk,Jk,Jk,Jk,Jk,Jk],[(Blk.d 1 Zt),(Blk.d 1 [(D.list 0 (some 0) [])])]⟩
  (contK Tg Zau.sp ⟨0,[],false,[]⟩ (inlK Tg Zau m 4) m Z5u (endK Tg Tryz.f30 (fun v L => viewK L 8 v some)) [.block 0])
theorem Z15l (m n0 : Nat) (Zl : Int) (Zt : List D) : Zka m (n0 + 1) Zl Zt =
 ((Z5t [(D.agg Zt),(D.v (.int .i64 Zl))]).bind fun d9 =>
 (rdL (some d9)).bind fun q10 =>
 cond ((q10.n : Int) == (0 : Int))
 (if (List.length Zt) = 1 then
 some (D.agg Zt)
 else none)
 (if 0 ≤ (1 : Int) ∧ (1 : Int) ≤ (q10.n : Int) then
 (Z7t [(D.agg Zt),(D.list 1 (Option.map (fun q => q - 0) q10.cap) ((List.drop 0 q10.cs).take 1))]).bind fun d11 =>
 (rdA (some d11)).bind fun c12 =>
 if (List.length c12) = 1 then
 Zka m n0 Zl c12
 else none
 else none)) := by kernel_rfl
noncomputable def Z13o (m : Nat) (a0_0n : Nat) (a0_0c : Option Nat) (a0_0 : List D) (a1 : Int) : Option D :=
 Zka m m a1 [(D.list a0_0n a0_0c a0_0)]
theorem Z17o (m : Nat) (a0_0n : Nat) (a0_0c : Option Nat) (a0_0 : List D) (a1 : Int) : funD Tg Zau m 4 Z5u Tryz.f30 [(D.agg [(D.list a0_0n a0_0c a0_0)]),(D.v (.int .i64 a1))] = Z13o m a0_0n a0_0c a0_0 a1 := by kernel_rfl
theorem Z1c7 : Enters Tg 30 := ⟨Tryz.f30,Tryz.func30,by kernel_rfl,by kernel_rfl⟩
theorem Z1c8 {ds : List D} {d : D} (h : funD Tg Zau M 4 Z5u Tryz.f30 ds = some d) : DataSem Tg 30 ds d := Z8 (H := Zau) (SpOk.cons Zrz (SpOk.cons Zy0 SpOk.nil)) mixed InlOk.nil Tryz.func30 Z1c7 h
noncomputable def Z6k : List D → Option D
  | [.agg [.list a0_0n a0_0c a0_0],.v (.int .i64 a1)] => Z13o M a0_0n a0_0c a0_0 a1
  | _ => none
theorem Z1c9 : ∀ ds d,Z6k ds = some d → DataSem Tg 30 ds d := by
  intro ds d h
  unfold Z6k at h
  split at h
  · exact Z1c8 ((Z17o M _ _ _ _).trans h)
  · cases h

def Z1n : FnH := ⟨[(2,⟨(bm 334 45),[],(some 2)⟩)],[(8,⟨(bm 1870 45),[],(some 2)⟩),(10,⟨(bm 1870 45),[],(some 2)⟩)]⟩
noncomputable def Z2m : Hints := ⟨[(22,Z5t),(28,Z7t)],[],[]⟩
noncomputable def Zfb (m n0 : Nat) (Zl : Int) (Zt : Nat) (Zy : Option Nat) (Z11 : List D) (Zs : Int) (Z1b : List D) : Option D :=
 Z15 (bm 334 45) 0 2 (codeK Tg Z2m.sp ⟨0,[],false,[]⟩ (inlK Tg Z2m m 4) m Z1n (subc [1,1,0,0] (bodyOf Tryz.f29))) n0 ⟨[Jk,(AV.d (D.v (.int .i64 Zl))),(AV.d (D.list Zt Zy Z11)),(AV.ptr 0 0),Jk,Jk,(AV.ptr 1 0),Jk,(AV.d (D.v (.int .i64 Zs))),Jk,Jk,Jk,Jk,Jk,Jk,Jk,Jk,Jk,Jk,Jk,Jk,Jk,Jk,Jk,Jk,Jk,Jk,Jk,Jk,Jk,Jk,Jk,Jk,Jk,Jk,Jk,Jk,Jk,Jk,Jk,Jk,Jk,Jk,Jk,Jk],[(Blk.d 1 Z1b),(Blk.d 1 [(D.list 0 (some 0) [])])]⟩
  (contK Tg Z2m.sp ⟨0,[],false,[]⟩ (inlK Tg Z2m m 4) m Z1n (endK Tg Tryz.f29 (fun v L => viewK L 8 v some)) [.block 0])
noncomputable def Zkb (m n0 : Nat) (Z2o : Int) (Z43 : Nat) (Z3v : Option Nat) (Z3o : List D) (Z2d : Int) (Z6d : Nat) (Z7a : Option Nat) (Zki : List D) (Zp1 : Int) (Z12w : List D) : Option D :=
 cutK m (codeK Tg Z2m.sp ⟨0,[],false,[]⟩ (inlK Tg Z2m m 4) m Z1n (subc [1,1,0,0,0,1,1,1,1] (bodyOf Tryz.f29)) ⟨[Jk,(AV.d (D.v (.int .i64 Z2o))),(AV.d (D.list Z43 Z3v Z3o)),(AV.ptr 0 0),Jk,Jk,(AV.ptr 1 0),Jk,(AV.d (D.v (.int .i64 Z2d))),(AV.d (D.list Z6d Z7a Zki)),(AV.d (D.v (.int .i64 Zp1))),Jk,Jk,Jk,Jk,Jk,Jk,Jk,Jk,Jk,Jk,Jk,Jk,Jk,Jk,Jk,Jk,Jk,Jk,Jk,Jk,Jk,Jk,Jk,Jk,Jk,Jk,Jk,Jk,Jk,Jk,Jk,Jk,Jk,Jk],[(Blk.d 1 Z12w),(Blk.d 1 [(D.list 0 (some 0) [])])]⟩
  (contK Tg Z2m.sp ⟨0,[],false,[]⟩ (inlK Tg Z2m m 4) m Z1n (endK Tg Tryz.f29 (fun v L => viewK L 8 v some)) [.block 1,.loop (bm 334 45) 2 (subc [1,1,0,0] (bodyOf Tryz.f29)) n0,.block 0]))
noncomputable def Zav (m n0 : Nat) (Z8i : Int) (Z9q : Nat) (Z9r : Option Nat) (Za9 : List D) (Z80 : Int) (Z8s : Nat) (Zf3 : Option Nat) (Zif : List D) (Zno : Int) (Zso : List D) : Option D :=
 cutK m (codeK Tg Z2m.sp ⟨0,[],false,[]⟩ (inlK Tg Z2m m 4) m Z1n (subc [1,1,0,0,0,1,1,1,1,1] (bodyOf Tryz.f29)) ⟨[Jk,(AV.d (D.v (.int .i64 Z8i))),(AV.d (D.list Z9q Z9r Za9)),(AV.ptr 0 0),Jk,Jk,(AV.ptr 1 0),Jk,(AV.d (D.v (.int .i64 Z80))),(AV.d (D.list Z8s Zf3 Zif)),(AV.d (D.v (.int .i64 Zno))),Jk,Jk,Jk,Jk,Jk,Jk,Jk,Jk,Jk,Jk,Jk,Jk,Jk,Jk,Jk,Jk,Jk,Jk,Jk,Jk,Jk,Jk,Jk,Jk,Jk,Jk,Jk,Jk,Jk,Jk,Jk,Jk,Jk,Jk],[(Blk.d 1 Zso),(Blk.d 1 [(D.list 0 (some 0) [])])]⟩
  (contK Tg Z2m.sp ⟨0,[],false,[]⟩ (inlK Tg Z2m m 4) m Z1n (endK Tg Tryz.f29 (fun v L => viewK L 8 v some)) [.block 1,.loop (bm 334 45) 2 (subc [1,1,0,0] (bodyOf Tryz.f29)) n0,.block 0]))
theorem Zy3 (m n0 : Nat) (Z8i : Int) (Z9q : Nat) (Z9r : Option Nat) (Za9 : List D) (Z80 : Int) (Z8s : Nat) (Zf3 : Option Nat) (Zif : List D) (Zno : Int) (Zso : List D) : Zav m n0 Z8i Z9q Z9r Za9 Z80 Z8s Zf3 Zif Zno Zso =
 (if 0 ≤ (IntKind.wrap .i64 (Zno + (1 : Int))) ∧ (IntKind.wrap .i64 (Zno + (1 : Int))) ≤ (Z8s : Int) then
 if 0 ≤ Zno ∧ Zno ≤ (((Int.toNat (IntKind.wrap .i64 (Zno + (1 : Int)))) : Nat) : Int) then
 (Z7t [(D.agg Zso),(D.list ((Int.toNat (IntKind.wrap .i64 (Zno + (1 : Int)))) - (Int.toNat Zno)) (Option.map (fun q => q - (Int.toNat Zno)) Zf3) ((List.drop ((Int.toNat Zno) * 1) Zif).take (((Int.toNat (IntKind.wrap .i64 (Zno + (1 : Int)))) - (Int.toNat Zno)) * 1)))]).bind fun d22 =>
 (rdA (some d22)).bind fun c23 =>
 if (List.length c23) = 1 then
 Zfb m n0 Z8i Z9q Z9r Za9 (IntKind.wrap .i64 (Z80 + (1 : Int))) c23
 else none
 else none
 else none) := (Z1t m _).trans (by kernel_rfl)
theorem Zod (m n0 : Nat) (Z2o : Int) (Z43 : Nat) (Z3v : Option Nat) (Z3o : List D) (Z2d : Int) (Z6d : Nat) (Z7a : Option Nat) (Zki : List D) (Zp1 : Int) (Z12w : List D) : Zkb m n0 Z2o Z43 Z3v Z3o Z2d Z6d Z7a Zki Zp1 Z12w =
 (cond (decide (Zp1 < (0 : Int)))
 (Zav m n0 Z2o Z43 Z3v Z3o Z2d Z6d Z7a Zki (IntKind.wrap .i64 (Zp1 + (Z6d : Int))) Z12w)
 (Zav m n0 Z2o Z43 Z3v Z3o Z2d Z6d Z7a Zki Zp1 Z12w)) := (Z1t m _).trans (by kernel_rfl)
theorem Z11e (m n0 : Nat) (Zl : Int) (Zt : Nat) (Zy : Option Nat) (Z11 : List D) (Zs : Int) (Z1b : List D) : Zfb m (n0 + 1) Zl Zt Zy Z11 Zs Z1b =
 ((Z5t [(D.agg Z1b),(D.v (.int .i64 Zl))]).bind fun d19 =>
 (rdL (some d19)).bind fun q20 =>
 cond ((q20.n : Int) == (0 : Int))
 (if (List.length Z1b) = 1 then
 some (D.tup [(D.agg Z1b),(D.v (.int .i64 Zs))])
 else none)
 (cond (decide (Zs < (Zt : Int)))
 (if 0 ≤ Zs ∧ Zs < (Zt : Int) then
 (rdI .i64 Z11[((Int.toNat Zs) * 1)]?).bind fun x21 =>
 if (q20.n : Int) = 0 then none else
 Zkb m n0 Zl Zt Zy Z11 Zs q20.n q20.cap q20.cs (Int.tmod x21 (q20.n : Int)) Z1b
 else none)
 (Zkb m n0 Zl Zt Zy Z11 Zs q20.n q20.cap q20.cs (0 : Int) Z1b))) := by kernel_rfl
noncomputable def Zy4 (m : Nat) (a0_0n : Nat) (a0_0c : Option Nat) (a0_0 : List D) (a1 : Int) (a2n : Nat) (a2c : Option Nat) (a2 : List D) : Option D :=
 Zfb m m a1 a2n a2c a2 (0 : Int) [(D.list a0_0n a0_0c a0_0)]
theorem Z13p (m : Nat) (a0_0n : Nat) (a0_0c : Option Nat) (a0_0 : List D) (a1 : Int) (a2n : Nat) (a2c : Option Nat) (a2 : List D) : funD Tg Z2m m 4 Z1n Tryz.f29 [(D.agg [(D.list a0_0n a0_0c a0_0)]),(D.v (.int .i64 a1)),(D.list a2n a2c a2)] = Zy4 m a0_0n a0_0c a0_0 a1 a2n a2c a2 := by kernel_rfl
theorem Z17p : Enters Tg 29 := ⟨Tryz.f29,Tryz.func29,by kernel_rfl,by kernel_rfl⟩
theorem Z17q {ds : List D} {d : D} (h : funD Tg Z2m M 4 Z1n Tryz.f29 ds = some d) : DataSem Tg 29 ds d := Z8 (H := Z2m) (SpOk.cons Zrz (SpOk.cons Zy0 SpOk.nil)) mixed InlOk.nil Tryz.func29 Z17p h
noncomputable def Z53 : List D → Option D
  | [.agg [.list a0_0n a0_0c a0_0],.v (.int .i64 a1),.list a2n a2c a2] => Zy4 M a0_0n a0_0c a0_0 a1 a2n a2c a2
  | _ => none
theorem Z17r : ∀ ds d,Z53 ds = some d → DataSem Tg 29 ds d := by
  intro ds d h
  unfold Z53 at h
  split at h
  · exact Z17q ((Z13p M _ _ _ _ _ _ _).trans h)
  · cases h

def Z7w : FnH := ⟨[(5,⟨(bm 396 31),[],(some 1)⟩)],[]⟩
noncomputable def Zfc (Z2z : List D → Option D) : Hints := ⟨[(34,Z29),(44,Z69),(74,Z2z)],[],[]⟩
noncomputable def Zkc (Z2z : List D → Option D) (m n0 : Nat) (Zl : Int) (Zt : Nat) (Zy : Option Nat) (Z11 : List D) (Zs : Int) (Z1b : Nat) (Z1o : Option Nat) (Z2r : List D) : Option D :=
 Z15 (bm 396 31) 0 1 (codeK Tg (Zfc Z2z).sp ⟨0,[],false,[]⟩ (inlK Tg (Zfc Z2z) m 4) m Z7w (subc [1,1,1,0,1,0,0] (bodyOf Tryz.f74))) n0 ⟨[Jk,Jk,(AV.d (D.v (.int .i64 Zl))),(AV.ptr 0 0),Jk,Jk,Jk,(AV.d (D.list Zt Zy Z11)),(AV.d (D.v (.int .i64 Zs))),Jk,Jk,Jk,Jk,Jk,Jk,Jk,Jk,Jk,Jk,Jk,Jk,Jk,Jk,Jk,Jk,Jk,Jk,Jk,Jk,Jk,Jk],[(Blk.d 1 [(D.list Z1b Z1o Z2r)])]⟩
  (contK Tg (Zfc Z2z).sp ⟨0,[],false,[]⟩ (inlK Tg (Zfc Z2z) m 4) m Z7w (endK Tg Tryz.f74 (fun v L => viewK L 8 v some)) [.block 0,.code (subc [1,1,1,1] (bodyOf Tryz.f74))])
theorem Z15m (Z2z : List D → Option D) (m n0 : Nat) (Zl : Int) (Zt : Nat) (Zy : Option Nat) (Z11 : List D) (Zs : Int) (Z1b : Nat) (Z1o : Option Nat) (Z2r : List D) : Zkc Z2z m (n0 + 1) Zl Zt Zy Z11 Zs Z1b Z1o Z2r =
 (cond (decide (Zs < (Zt : Int)))
 (if 0 ≤ Zs ∧ Zs < (Zt : Int) then
 (rdI .i64 Z11[((Int.toNat Zs) * 1)]?).bind fun x11 =>
 (Z2z [(D.agg [(D.list Z1b Z1o Z2r)]),(D.v (.int .i64 x11)),(D.v (.int .i64 Zl))]).bind fun d12 =>
 (rdI .i64 (some d12)).bind fun x13 =>
 cond (x13 == (1 : Int))
 (some (D.v (.int .i64 (1 : Int))))
 (Zkc Z2z m n0 Zl Zt Zy Z11 (IntKind.wrap .i64 (Zs + (1 : Int))) Z1b Z1o Z2r)
 else none)
 (some zI)) := by kernel_rfl
noncomputable def Zpa (Z2z : List D → Option D) (m : Nat) (a0_0n : Nat) (a0_0c : Option Nat) (a0_0 : List D) (a1 : Int) (a2 : Int) : Option D :=
 (Z29 [(D.agg [(D.list a0_0n a0_0c a0_0)]),(D.v (.int .i64 a1))]).bind fun d1 =>
 (rdI .i64 (some d1)).bind fun x2 =>
 cond (x2 == a2)
 (some (D.v (.int .i64 (1 : Int))))
 ((Z69 [(D.agg [(D.list a0_0n a0_0c a0_0)]),(D.v (.int .i64 a1))]).bind fun d3 =>
 (rdL (some d3)).bind fun q4 =>
 Zkc Z2z m m a2 q4.n q4.cap q4.cs (0 : Int) a0_0n a0_0c a0_0)
theorem Z17s (Z2z : List D → Option D) (m : Nat) (a0_0n : Nat) (a0_0c : Option Nat) (a0_0 : List D) (a1 : Int) (a2 : Int) : funD Tg (Zfc Z2z) m 4 Z7w Tryz.f74 [(D.agg [(D.list a0_0n a0_0c a0_0)]),(D.v (.int .i64 a1)),(D.v (.int .i64 a2))] = Zpa Z2z m a0_0n a0_0c a0_0 a1 a2 := by kernel_rfl
theorem Z1ca : Enters Tg 74 := ⟨Tryz.f74,Tryz.func74,by kernel_rfl,by kernel_rfl⟩
noncomputable def Z5v : Nat → List D → Option D
  | 0,_ => none
  | n + 1,[.agg [.list a0_0n a0_0c a0_0],.v (.int .i64 a1),.v (.int .i64 a2)] => Zpa (Z5v n) M a0_0n a0_0c a0_0 a1 a2
  | _ + 1,_ => none
theorem Z1aq (n : Nat) : ∀ ds d,Z5v n ds = some d → DataSem Tg 74 ds d := by
  induction n with
  | zero => intro ds d h; cases h
  | succ n ih =>
    intro ds d h
    unfold Z5v at h
    split at h
    · rename_i hx; cases hx
    · rename_i hx; cases hx; exact Z8 (H := Zfc (Z5v n)) (SpOk.cons Zgh (SpOk.cons Ztc (SpOk.cons ih SpOk.nil))) mixed InlOk.nil Tryz.func74 Z1ca ((Z17s (Z5v n) M _ _ _ _ _).trans h)
    · cases h
noncomputable def Zsl : List D → Option D := Z5v M
theorem Z1cb : ∀ ds d,Zsl ds = some d → DataSem Tg 74 ds d := Z1aq M

def Z25 : FnH := ⟨[(3,⟨(bm 102 31),[(5,1)],(some 2)⟩)],[(4,⟨(bm 102 31),[],(some 3)⟩)]⟩
noncomputable def Z3t : Hints := ⟨[(34,Z29),(74,Zsl)],[],[]⟩
noncomputable def Zek (m n0 : Nat) (Zl : Int) (Zt : Nat) (Zy : Int) (Z11 : Nat) (Zs : Option Nat) (Z1b : List D) (Z1o : Nat) (Z2r : List D) : Option D :=
 Z15 (bm 102 31) 0 2 (codeK Tg Z3t.sp ⟨0,[],false,[]⟩ (inlK Tg Z3t m 4) m Z25 (subc [1,1,0,1,0,0] (bodyOf Tryz.f26))) n0 ⟨[Jk,(AV.d (D.v (.int .i64 Zl))),(AV.ptr 0 0),Jk,Jk,(AV.sl 1 0 Zt none 1),(AV.d (D.v (.int .i64 Zy))),Jk,Jk,Jk,Jk,Jk,Jk,Jk,Jk,Jk,Jk,Jk,Jk,Jk,Jk,Jk,Jk,Jk,Jk,Jk,Jk,Jk,Jk,Jk,Jk],[(Blk.d 1 [(D.list Z11 Zs Z1b)]),(Blk.d Z1o Z2r)]⟩
  (contK Tg Z3t.sp ⟨0,[],false,[]⟩ (inlK Tg Z3t m 4) m Z25 (endK Tg Tryz.f26 (fun v L => viewK L 8 v some)) [.block 0,.code (subc [1,1,1] (bodyOf Tryz.f26))])
noncomputable def Zo5 (m n0 : Nat) (Z2o : Int) (Z43 : Nat) (Z3v : Int) (Z3o : Nat) (Z2d : Option Nat) (Z6d : List D) (Z7a : Nat) (Zki : List D) (Zp1 : Int) : Option D :=
 cutK m (codeK Tg Z3t.sp ⟨0,[],false,[]⟩ (inlK Tg Z3t m 4) m Z25 (subc [1,1,0,1,0,0,1,1] (bodyOf Tryz.f26)) ⟨[Jk,(AV.d (D.v (.int .i64 Z2o))),(AV.ptr 0 0),Jk,Jk,(AV.sl 1 0 Z43 none 1),(AV.d (D.v (.int .i64 Z3v))),Jk,Jk,Jk,Jk,Jk,Jk,Jk,Jk,Jk,Jk,Jk,Jk,Jk,Jk,Jk,Jk,Jk,Jk,Jk,Jk,Jk,Jk,Jk,Jk],[(Blk.d 1 [(D.list Z3o Z2d Z6d)]),(Blk.d Z7a Zki),(Blk.d 1 [(D.v (.int .i64 Zp1))])]⟩
  (contK Tg Z3t.sp ⟨0,[],false,[]⟩ (inlK Tg Z3t m 4) m Z25 (endK Tg Tryz.f26 (fun v L => viewK L 8 v some)) [.loop (bm 102 31) 2 (subc [1,1,0,1,0,0] (bodyOf Tryz.f26)) n0,.block 0,.code (subc [1,1,1] (bodyOf Tryz.f26))]))
theorem Zs0 (m n0 : Nat) (Z2o : Int) (Z43 : Nat) (Z3v : Int) (Z3o : Nat) (Z2d : Option Nat) (Z6d : List D) (Z7a : Nat) (Zki : List D) (Zp1 : Int) : Zo5 m n0 Z2o Z43 Z3v Z3o Z2d Z6d Z7a Zki Zp1 =
 (Zek m n0 Z2o Z43 (IntKind.wrap .i64 (Z3v + (1 : Int))) Z3o Z2d Z6d Z7a Zki) := (Z1t m _).trans (by kernel_rfl)
noncomputable def Zs1 (m n0 : Nat) (Z8i : Int) (Z9q : Nat) (Z9r : Int) (Za9 : Nat) (Z80 : Option Nat) (Z8s : List D) (Zf3 : Nat) (Zif : List D) : Option D :=
 cutK m (codeK Tg Z3t.sp ⟨0,[],false,[]⟩ (inlK Tg Z3t m 4) m Z25 (subc [1,1,0,1,0,0,1,1] (bodyOf Tryz.f26)) ⟨[Jk,(AV.d (D.v (.int .i64 Z8i))),(AV.ptr 0 0),Jk,Jk,(AV.sl 1 0 Z9q none 1),(AV.d (D.v (.int .i64 Z9r))),Jk,Jk,Jk,Jk,Jk,Jk,Jk,Jk,Jk,Jk,Jk,Jk,Jk,Jk,Jk,Jk,Jk,Jk,Jk,Jk,Jk,Jk,Jk,Jk],[(Blk.d 1 [(D.list Za9 Z80 Z8s)]),(Blk.d Zf3 Zif)]⟩
  (contK Tg Z3t.sp ⟨0,[],false,[]⟩ (inlK Tg Z3t m 4) m Z25 (endK Tg Tryz.f26 (fun v L => viewK L 8 v some)) [.loop (bm 102 31) 2 (subc [1,1,0,1,0,0] (bodyOf Tryz.f26)) n0,.block 0,.code (subc [1,1,1] (bodyOf Tryz.f26))]))
theorem Zz4 (m n0 : Nat) (Z8i : Int) (Z9q : Nat) (Z9r : Int) (Za9 : Nat) (Z80 : Option Nat) (Z8s : List D) (Zf3 : Nat) (Zif : List D) : Zs1 m n0 Z8i Z9q Z9r Za9 Z80 Z8s Zf3 Zif =
 (Zek m n0 Z8i Z9q (IntKind.wrap .i64 (Z9r + (1 : Int))) Za9 Z80 Z8s Zf3 Zif) := (Z1t m _).trans (by kernel_rfl)
theorem Z15n (m n0 : Nat) (Zl : Int) (Zt : Nat) (Zy : Int) (Z11 : Nat) (Zs : Option Nat) (Z1b : List D) (Z1o : Nat) (Z2r : List D) : Zek m (n0 + 1) Zl Zt Zy Z11 Zs Z1b Z1o Z2r =
 (cond (decide (Zy < (Z11 : Int)))
 ((Z29 [(D.agg [(D.list Z11 Zs Z1b)]),(D.v (.int .i64 Zy))]).bind fun d9 =>
 (rdI .i64 (some d9)).bind fun x10 =>
 cond (decide (x10 ≥ Zl))
 (if ownB ⟨0,[],false,[]⟩ 1 = true ∧ Z1o = (Zt * 1) ∧ Z1w (Zt + 1) 8 ∧ 1 = 1 then
 Zo5 m n0 Zl (Zt + 1) Zy Z11 Zs Z1b ((Zt + 1) * 1) (Z2r ++ [(D.v (.int .i64 Zy))]) Zy
 else none)
 ((Zsl [(D.agg [(D.list Z11 Zs Z1b)]),(D.v (.int .i64 Zy)),(D.v (.int .i64 Zl))]).bind fun d11 =>
 (rdI .i64 (some d11)).bind fun x12 =>
 cond (x12 == (1 : Int))
 (if ownB ⟨0,[],false,[]⟩ 1 = true ∧ Z1o = (Zt * 1) ∧ Z1w (Zt + 1) 8 ∧ 1 = 1 then
 Zo5 m n0 Zl (Zt + 1) Zy Z11 Zs Z1b ((Zt + 1) * 1) (Z2r ++ [(D.v (.int .i64 Zy))]) Zy
 else none)
 (Zs1 m n0 Zl Zt Zy Z11 Zs Z1b Z1o Z2r)))
 (if (0 + (Zt * 1)) ≤ Z1o then
 some (D.list Zt none (cutL Z1o Z2r 0 (Zt * 1)))
 else none)) := by kernel_rfl
noncomputable def Zpb (m : Nat) (a0_0n : Nat) (a0_0c : Option Nat) (a0_0 : List D) (a1 : Int) : Option D :=
 Zek m m a1 0 (0 : Int) a0_0n a0_0c a0_0 0 []
theorem Z17t (m : Nat) (a0_0n : Nat) (a0_0c : Option Nat) (a0_0 : List D) (a1 : Int) : funD Tg Z3t m 4 Z25 Tryz.f26 [(D.agg [(D.list a0_0n a0_0c a0_0)]),(D.v (.int .i64 a1))] = Zpb m a0_0n a0_0c a0_0 a1 := by kernel_rfl
theorem Z1cc : Enters Tg 26 := ⟨Tryz.f26,Tryz.func26,by kernel_rfl,by kernel_rfl⟩
theorem Z1cd {ds : List D} {d : D} (h : funD Tg Z3t M 4 Z25 Tryz.f26 ds = some d) : DataSem Tg 26 ds d := Z8 (H := Z3t) (SpOk.cons Zgh (SpOk.cons Z1cb SpOk.nil)) mixed InlOk.nil Tryz.func26 Z1cc h
noncomputable def Z6l : List D → Option D
  | [.agg [.list a0_0n a0_0c a0_0],.v (.int .i64 a1)] => Zpb M a0_0n a0_0c a0_0 a1
  | _ => none
theorem Z1ce : ∀ ds d,Z6l ds = some d → DataSem Tg 26 ds d := by
  intro ds d h
  unfold Z6l at h
  split at h
  · exact Z1cd ((Z17t M _ _ _ _).trans h)
  · cases h

end Go.Ev
