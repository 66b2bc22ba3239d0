/- Functions of the given program in plain form,printed: each with the proof that it is what the evaluator comes to,and that the program function returns what it says. No conditions. -/
import Derived.Test.YthakkigkdhaihaaGreatDoorEzG1
set_option linter.unusedVariables false
set_option maxRecDepth 100000
namespace Go.Ev
open Go Go.Proofs
def Z16 : FnH := ⟨[(5,⟨(bm 25 25),[],(some 0),none⟩)],[(3,⟨(bm 1 25),[],(some 0),none⟩)]⟩
noncomputable def Z23 : Hints := ⟨[],[],[]⟩
noncomputable def Zgz (m : Nat) (Z3v : Nat) (Z4x : Option Nat) (Z44 : List D) : Option D :=
 cutK m (codeK Tg Z23.sp ⟨0,[],false,[]⟩ (inlK Tg Z23 m 4) m Z16 (subc [1,1] (bodyOf Tryz.f158)) ⟨[(AV.d (D.list Z3v Z4x Z44)),Jk,Jk,Jk,Jk,Jk,Jk,Jk,Jk,Jk,Jk,Jk,Jk,Jk,Jk,Jk,Jk,Jk,Jk,Jk,Jk,Jk,Jk,Jk,Jk],[]⟩
  (contK Tg Z23.sp ⟨0,[],false,[]⟩ (inlK Tg Z23 m 4) m Z16 (endK Tg Tryz.f158 endV) []))
noncomputable def Z63 (m n0 : Nat) (Z2h : Nat) (Z3b : Option Nat) (Z25 : List D) (Z2p : Int) (Z1q : Int) : Option D :=
 Z26 (bm 25 25) 0 0 (codeK Tg Z23.sp ⟨0,[],false,[]⟩ (inlK Tg Z23 m 4) m Z16 (subc [1,1,1,0,1,0,0] (bodyOf Tryz.f158))) n0 ⟨[(AV.d (D.list Z2h Z3b Z25)),Jk,Jk,(AV.d (D.v (.int .i64 Z2p))),(AV.d (D.v (.int .i64 Z1q))),Jk,Jk,Jk,Jk,Jk,Jk,Jk,Jk,Jk,Jk,Jk,Jk,Jk,Jk,Jk,Jk,Jk,Jk,Jk,Jk],[]⟩
  (contK Tg Z23.sp ⟨0,[],false,[]⟩ (inlK Tg Z23 m 4) m Z16 (endK Tg Tryz.f158 endV) [.block 0,.code (subc [1,1,1,1] (bodyOf Tryz.f158))])
theorem Z7p (m n0 : Nat) (Z2h : Nat) (Z3b : Option Nat) (Z25 : List D) (Z2p : Int) (Z1q : Int) : Z63 m (n0 + 1) Z2h Z3b Z25 Z2p Z1q =
 (cond (decide (Z1q < (Z2h : Int)))
 (if 0 ≤ Z1q ∧ Z1q < (Z2h : Int) then
 (rdI .i64 Z25[((Int.toNat Z1q) * 1)]?).bind fun x4 =>
 Z63 m n0 Z2h Z3b Z25 (mm true Z2p x4) (IntKind.wrap .i64 (Z1q + (1 : Int)))
 else none)
 (some (D.v (.int .i64 Z2p)))) := by kernel_rfl
theorem Zo0 (m : Nat) (Z3v : Nat) (Z4x : Option Nat) (Z44 : List D) : Zgz m Z3v Z4x Z44 =
 (if 0 ≤ (0 : Int) ∧ (0 : Int) < (Z3v : Int) then
 (rdI .i64 Z44[0]?).bind fun x1 =>
 Z63 m m Z3v Z4x Z44 x1 (1 : Int)
 else none) := (Z12 m _).trans (by kernel_rfl)
noncomputable def Z5k (m : Nat) (a0n : Nat) (a0c : Option Nat) (a0 : List D) : Option D :=
 cond (decide ((a0n : Int) < (1 : Int)))
 (none)
 (Zgz m a0n a0c a0)
theorem Zq4 (m : Nat) (a0n : Nat) (a0c : Option Nat) (a0 : List D) : funD Tg Z23 m 4 Z16 Tryz.f158 [(D.list a0n a0c a0)] = Z5k m a0n a0c a0 := by kernel_rfl
theorem Zso : Enters Tg 158 := ⟨Tryz.f158,Tryz.func158,by kernel_rfl,by kernel_rfl⟩
theorem Zsp {ds : List D} {d : D} (h : funD Tg Z23 M 4 Z16 Tryz.f158 ds = some d) : DataSem Tg 158 ds d := Zo (H := Z23) SpOk.nil mixed InlOk.nil Tryz.func158 Zso h
noncomputable def Z33 : List D → Option D
 | [.list a0n a0c a0] => Z5k M a0n a0c a0
 | _ => none
theorem Zsq : ∀ ds d,Z33 ds = some d → DataSem Tg 158 ds d := by
 intro ds d h
 unfold Z33 at h
 split at h
 ·exact Zsp ((Zq4 M _ _ _).trans h)
 ·cases h
def Z17 : FnH := ⟨[(5,⟨(bm 25 25),[],(some 0),none⟩)],[(3,⟨(bm 1 25),[],(some 0),none⟩)]⟩
noncomputable def Z24 : Hints := ⟨[],[],[]⟩
noncomputable def Zh0 (m : Nat) (Z3v : Nat) (Z4x : Option Nat) (Z44 : List D) : Option D :=
 cutK m (codeK Tg Z24.sp ⟨0,[],false,[]⟩ (inlK Tg Z24 m 4) m Z17 (subc [1,1] (bodyOf Tryz.f159)) ⟨[(AV.d (D.list Z3v Z4x Z44)),Jk,Jk,Jk,Jk,Jk,Jk,Jk,Jk,Jk,Jk,Jk,Jk,Jk,Jk,Jk,Jk,Jk,Jk,Jk,Jk,Jk,Jk,Jk,Jk],[]⟩
  (contK Tg Z24.sp ⟨0,[],false,[]⟩ (inlK Tg Z24 m 4) m Z17 (endK Tg Tryz.f159 endV) []))
noncomputable def Z64 (m n0 : Nat) (Z2h : Nat) (Z3b : Option Nat) (Z25 : List D) (Z2p : Int) (Z1q : Int) : Option D :=
 Z26 (bm 25 25) 0 0 (codeK Tg Z24.sp ⟨0,[],false,[]⟩ (inlK Tg Z24 m 4) m Z17 (subc [1,1,1,0,1,0,0] (bodyOf Tryz.f159))) n0 ⟨[(AV.d (D.list Z2h Z3b Z25)),Jk,Jk,(AV.d (D.v (.int .i64 Z2p))),(AV.d (D.v (.int .i64 Z1q))),Jk,Jk,Jk,Jk,Jk,Jk,Jk,Jk,Jk,Jk,Jk,Jk,Jk,Jk,Jk,Jk,Jk,Jk,Jk,Jk],[]⟩
  (contK Tg Z24.sp ⟨0,[],false,[]⟩ (inlK Tg Z24 m 4) m Z17 (endK Tg Tryz.f159 endV) [.block 0,.code (subc [1,1,1,1] (bodyOf Tryz.f159))])
theorem Z7q (m n0 : Nat) (Z2h : Nat) (Z3b : Option Nat) (Z25 : List D) (Z2p : Int) (Z1q : Int) : Z64 m (n0 + 1) Z2h Z3b Z25 Z2p Z1q =
 (cond (decide (Z1q < (Z2h : Int)))
 (if 0 ≤ Z1q ∧ Z1q < (Z2h : Int) then
 (rdI .i64 Z25[((Int.toNat Z1q) * 1)]?).bind fun x4 =>
 Z64 m n0 Z2h Z3b Z25 (mm false Z2p x4) (IntKind.wrap .i64 (Z1q + (1 : Int)))
 else none)
 (some (D.v (.int .i64 Z2p)))) := by kernel_rfl
theorem Zo1 (m : Nat) (Z3v : Nat) (Z4x : Option Nat) (Z44 : List D) : Zh0 m Z3v Z4x Z44 =
 (if 0 ≤ (0 : Int) ∧ (0 : Int) < (Z3v : Int) then
 (rdI .i64 Z44[0]?).bind fun x1 =>
 Z64 m m Z3v Z4x Z44 x1 (1 : Int)
 else none) := (Z12 m _).trans (by kernel_rfl)
noncomputable def Z5l (m : Nat) (a0n : Nat) (a0c : Option Nat) (a0 : List D) : Option D :=
 cond (decide ((a0n : Int) < (1 : Int)))
 (none)
 (Zh0 m a0n a0c a0)
theorem Zq5 (m : Nat) (a0n : Nat) (a0c : Option Nat) (a0 : List D) : funD Tg Z24 m 4 Z17 Tryz.f159 [(D.list a0n a0c a0)] = Z5l m a0n a0c a0 := by kernel_rfl
theorem Zsr : Enters Tg 159 := ⟨Tryz.f159,Tryz.func159,by kernel_rfl,by kernel_rfl⟩
theorem Zss {ds : List D} {d : D} (h : funD Tg Z24 M 4 Z17 Tryz.f159 ds = some d) : DataSem Tg 159 ds d := Zo (H := Z24) SpOk.nil mixed InlOk.nil Tryz.func159 Zsr h
noncomputable def Z34 : List D → Option D
 | [.list a0n a0c a0] => Z5l M a0n a0c a0
 | _ => none
theorem Zst : ∀ ds d,Z34 ds = some d → DataSem Tg 159 ds d := by
 intro ds d h
 unfold Z34 at h
 split at h
 ·exact Zss ((Zq5 M _ _ _).trans h)
 ·cases h
def Z29 : FnH := ⟨[],[(3,⟨(bm 2 67),[],(some 1),none⟩),(8,⟨(bm 2 67),[],(some 1),none⟩)]⟩
noncomputable def Z3m (Zm Zn : List D → Option D) : Hints := ⟨[(158,Zm),(159,Zn)],[],[]⟩
noncomputable def Z6f (Zm Zn : List D → Option D) (m : Nat) (Z3v : Bool) (Z4x : Bool) (Z44 : Nat) (Z5s : Option Nat) (Z5q : List D) (Z81 : Bool) (Z6g : Nat) (Z8e : Option Nat) (Z6y : List D) (Ze7 : Int) (Z5i : Int) (Z56 : Int) : Option D :=
 cutK m (codeK Tg (Z3m Zm Zn).sp ⟨0,[],false,[]⟩ (inlK Tg (Z3m Zm Zn) m 4) m Z29 (subc [1,1] (bodyOf Tryz.f115)) ⟨[Jk,(AV.ptr 0 0),Jk,Jk,Jk,Jk,Jk,Jk,Jk,Jk,Jk,Jk,Jk,Jk,Jk,Jk,Jk,Jk,Jk,Jk,Jk,Jk,Jk,Jk,Jk,Jk,Jk,Jk,Jk,Jk,Jk,Jk,Jk,Jk,Jk,Jk,Jk,Jk,Jk,Jk,Jk,Jk,Jk,Jk,Jk,Jk,Jk,Jk,Jk,Jk,Jk,Jk,Jk,Jk,Jk,Jk,Jk,Jk,Jk,Jk,Jk,Jk,Jk,Jk,Jk,Jk,Jk],[(Blk.d 8 [(D.v (.bool Z3v)),(D.v (.bool Z4x)),(D.list Z44 Z5s Z5q),(D.v (.bool Z81)),(D.list Z6g Z8e Z6y),(D.v (.int .i64 Ze7)),(D.v (.int .i64 Z5i)),(D.v (.int .i64 Z56))])]⟩
  (contK Tg (Z3m Zm Zn).sp ⟨0,[],false,[]⟩ (inlK Tg (Z3m Zm Zn) m 4) m Z29 (endK Tg Tryz.f115 endV) []))
noncomputable def Znd (Zm Zn : List D → Option D) (m : Nat) (Zfi : Bool) (Zjz : Bool) (Zkq : Nat) (Zlm : Option Nat) (Zne : List D) (Zk0 : Bool) (Zm8 : Nat) (Znf : Option Nat) (Zmd : List D) (Zpk : Int) (Zbr : Int) (Zh1 : Int) : Option D :=
 cutK m (codeK Tg (Z3m Zm Zn).sp ⟨0,[],false,[]⟩ (inlK Tg (Z3m Zm Zn) m 4) m Z29 (subc [1,1,1,1,1] (bodyOf Tryz.f115)) ⟨[Jk,(AV.ptr 0 0),Jk,Jk,Jk,Jk,Jk,Jk,Jk,Jk,Jk,Jk,Jk,Jk,Jk,Jk,Jk,Jk,Jk,Jk,Jk,Jk,Jk,Jk,Jk,Jk,Jk,Jk,Jk,Jk,Jk,Jk,Jk,Jk,Jk,Jk,Jk,Jk,Jk,Jk,Jk,Jk,Jk,Jk,Jk,Jk,Jk,Jk,Jk,Jk,Jk,Jk,Jk,Jk,Jk,Jk,Jk,Jk,Jk,Jk,Jk,Jk,Jk,Jk,Jk,Jk,Jk],[(Blk.d 8 [(D.v (.bool Zfi)),(D.v (.bool Zjz)),(D.list Zkq Zlm Zne),(D.v (.bool Zk0)),(D.list Zm8 Znf Zmd),(D.v (.int .i64 Zpk)),(D.v (.int .i64 Zbr)),(D.v (.int .i64 Zh1))])]⟩
  (contK Tg (Z3m Zm Zn).sp ⟨0,[],false,[]⟩ (inlK Tg (Z3m Zm Zn) m 4) m Z29 (endK Tg Tryz.f115 endV) []))
theorem Ztq (Zm Zn : List D → Option D) (m : Nat) (Zfi : Bool) (Zjz : Bool) (Zkq : Nat) (Zlm : Option Nat) (Zne : List D) (Zk0 : Bool) (Zm8 : Nat) (Znf : Option Nat) (Zmd : List D) (Zpk : Int) (Zbr : Int) (Zh1 : Int) : Znd Zm Zn m Zfi Zjz Zkq Zlm Zne Zk0 Zm8 Znf Zmd Zpk Zbr Zh1 =
 (cond Zjz
 (cond ((Zkq : Int) == (0 : Int))
 (some (D.v (.int .i64 (17 : Int))))
 (cond Zk0
 (cond ((Zm8 : Int) == (0 : Int))
 (some (D.v (.int .i64 (17 : Int))))
 (some zI))
 (some zI)))
 (cond Zk0
 (cond ((Zm8 : Int) == (0 : Int))
 (some (D.v (.int .i64 (17 : Int))))
 (some zI))
 (some zI))) := (Z12 m _).trans (by kernel_rfl)
theorem Ztr (Zm Zn : List D → Option D) (m : Nat) (Z3v : Bool) (Z4x : Bool) (Z44 : Nat) (Z5s : Option Nat) (Z5q : List D) (Z81 : Bool) (Z6g : Nat) (Z8e : Option Nat) (Z6y : List D) (Ze7 : Int) (Z5i : Int) (Z56 : Int) : Z6f Zm Zn m Z3v Z4x Z44 Z5s Z5q Z81 Z6g Z8e Z6y Ze7 Z5i Z56 =
 ((Zm [(D.list 3 (some 3) [(D.v (.int .i64 Ze7)),(D.v (.int .i64 Z5i)),(D.v (.int .i64 Z56))])]).bind fun d1 =>
 (rdI .i64 (some d1)).bind fun x2 =>
 cond (decide (x2 < (-1 : Int)))
 (some (D.v (.int .i64 (1 : Int))))
 ((Zn [(D.list 3 (some 3) [(D.v (.int .i64 Ze7)),(D.v (.int .i64 Z5i)),(D.v (.int .i64 Z56))])]).bind fun d3 =>
 (rdI .i64 (some d3)).bind fun x4 =>
 cond (decide (x4 > (2147483647 : Int)))
 (some (D.v (.int .i64 (3 : Int))))
 (cond (decide ((Z44 : Int) > (64 : Int)))
 (some (D.v (.int .i64 (3 : Int))))
 (cond (decide ((Z6g : Int) > (64 : Int)))
 (some (D.v (.int .i64 (3 : Int))))
 (Znd Zm Zn m Z3v Z4x Z44 Z5s Z5q Z81 Z6g Z8e Z6y Ze7 Z5i Z56))))) := (Z12 m _).trans (by kernel_rfl)
noncomputable def Zh2 (Zm Zn : List D → Option D) (m : Nat) (a0_0 : Bool) (a0_1 : Bool) (a0_2n : Nat) (a0_2c : Option Nat) (a0_2 : List D) (a0_3 : Bool) (a0_4n : Nat) (a0_4c : Option Nat) (a0_4 : List D) (a0_5 : Int) (a0_6 : Int) (a0_7 : Int) : Option D :=
 cond (!a0_1)
 (cond (decide ((a0_2n : Int) > (0 : Int)))
 (some (D.v (.int .i64 (1 : Int))))
 (cond (!a0_3)
 (cond (decide ((a0_4n : Int) > (0 : Int)))
 (some (D.v (.int .i64 (1 : Int))))
 (Z6f Zm Zn m a0_0 a0_1 a0_2n a0_2c a0_2 a0_3 a0_4n a0_4c a0_4 a0_5 a0_6 a0_7))
 (Z6f Zm Zn m a0_0 a0_1 a0_2n a0_2c a0_2 a0_3 a0_4n a0_4c a0_4 a0_5 a0_6 a0_7)))
 (cond (!a0_3)
 (cond (decide ((a0_4n : Int) > (0 : Int)))
 (some (D.v (.int .i64 (1 : Int))))
 (Z6f Zm Zn m a0_0 a0_1 a0_2n a0_2c a0_2 a0_3 a0_4n a0_4c a0_4 a0_5 a0_6 a0_7))
 (Z6f Zm Zn m a0_0 a0_1 a0_2n a0_2c a0_2 a0_3 a0_4n a0_4c a0_4 a0_5 a0_6 a0_7))
theorem Zwr (Zm Zn : List D → Option D) (m : Nat) (a0_0 : Bool) (a0_1 : Bool) (a0_2n : Nat) (a0_2c : Option Nat) (a0_2 : List D) (a0_3 : Bool) (a0_4n : Nat) (a0_4c : Option Nat) (a0_4 : List D) (a0_5 : Int) (a0_6 : Int) (a0_7 : Int) : funD Tg (Z3m Zm Zn) m 4 Z29 Tryz.f115 [(D.agg [(D.v (.bool a0_0)),(D.v (.bool a0_1)),(D.list a0_2n a0_2c a0_2),(D.v (.bool a0_3)),(D.list a0_4n a0_4c a0_4),(D.v (.int .i64 a0_5)),(D.v (.int .i64 a0_6)),(D.v (.int .i64 a0_7))])] = Zh2 Zm Zn m a0_0 a0_1 a0_2n a0_2c a0_2 a0_3 a0_4n a0_4c a0_4 a0_5 a0_6 a0_7 := by kernel_rfl
theorem Z10x : Enters Tg 115 := ⟨Tryz.f115,Tryz.func115,by kernel_rfl,by kernel_rfl⟩
theorem Z10y {ds : List D} {d : D} (h : funD Tg (Z3m Z33 Z34) M 4 Z29 Tryz.f115 ds = some d) : DataSem Tg 115 ds d := Zo (H := (Z3m Z33 Z34)) (SpOk.cons Zsq (SpOk.cons Zst SpOk.nil)) mixed InlOk.nil Tryz.func115 Z10x h
noncomputable def Z9f : List D → Option D
 | [.agg [.v (.bool a0_0),.v (.bool a0_1),.list a0_2n a0_2c a0_2,.v (.bool a0_3),.list a0_4n a0_4c a0_4,.v (.int .i64 a0_5),.v (.int .i64 a0_6),.v (.int .i64 a0_7)]] => Zh2 Z33 Z34 M a0_0 a0_1 a0_2n a0_2c a0_2 a0_3 a0_4n a0_4c a0_4 a0_5 a0_6 a0_7
 | _ => none
theorem Z10z : ∀ ds d,Z9f ds = some d → DataSem Tg 115 ds d := by
 intro ds d h
 unfold Z9f at h
 split at h
 ·exact Z10y ((Zwr Z33 Z34 M _ _ _ _ _ _ _ _ _ _ _ _).trans h)
 ·cases h
def Zq : FnH := ⟨[(2,⟨(bm 393 19),[],(some 1),none⟩)],[]⟩
noncomputable def Z10 : Hints := ⟨[],[],[]⟩
noncomputable def Z1t (m n0 : Nat) (Z2h : Nat) (Z3b : Option Nat) (Z25 : List D) (Z2p : Int) (Z1q : Int) (Z48 : List D) : Option D :=
 Z26 (bm 393 19) 0 1 (codeK Tg Z10.sp ⟨0,[],false,[]⟩ (inlK Tg Z10 m 4) m Zq (subc [1,0,1,0,0] (bodyOf Tryz.f161))) n0 ⟨[(AV.d (D.list Z2h Z3b Z25)),Jk,Jk,(AV.ptr 0 0),Jk,Jk,Jk,(AV.d (D.v (.int .i64 Z2p))),(AV.d (D.v (.int .i64 Z1q))),Jk,Jk,Jk,Jk,Jk,Jk,Jk,Jk,Jk,Jk],[(Blk.d 34 Z48)]⟩
  (contK Tg Z10.sp ⟨0,[],false,[]⟩ (inlK Tg Z10 m 4) m Zq (endK Tg Tryz.f161 endV) [.block 0,.code (subc [1,1] (bodyOf Tryz.f161))])
theorem Z9g (m n0 : Nat) (Z2h : Nat) (Z3b : Option Nat) (Z25 : List D) (Z2p : Int) (Z1q : Int) (Z48 : List D) : Z1t m (n0 + 1) Z2h Z3b Z25 Z2p Z1q Z48 =
 (cond (decide (Z1q < Z2p))
 (if 0 ≤ Z1q ∧ Z1q < (Z2h : Int) then
 if (((Int.toNat Z1q) * 34) + 34) ≤ (List.length Z25) then
 (cellsEq [.int,.int,.int,.int,.int,.int,.int,.int,.int,.int,.int,.int,.int,.int,.int,.int,.int,.int,.int,.int,.int,.int,.int,.int,.int,.int,.int,.int,.int,.int,.int,.int,.int,.int] Z48 ((List.drop ((Int.toNat Z1q) * 34) Z25).take 34)).bind fun b3 =>
 cond b3
 (some (D.v (.int .i64 Z1q)))
 (Z1t m n0 Z2h Z3b Z25 Z2p (IntKind.wrap .i64 (Z1q + (1 : Int))) Z48)
 else none
 else none)
 (some (D.v (.int .i64 (-1 : Int))))) := by kernel_rfl
noncomputable def Z2o (m : Nat) (a0n : Nat) (a0c : Option Nat) (a0 : List D) (a1 : List D) : Option D :=
 if (List.length a1) = 34 then
 Z1t m m a0n a0c a0 (a0n : Int) (0 : Int) a1
 else none
theorem Za3 (m : Nat) (a0n : Nat) (a0c : Option Nat) (a0 : List D) (a1 : List D) : funD Tg Z10 m 4 Zq Tryz.f161 [(D.list a0n a0c a0),(D.agg a1)] = Z2o m a0n a0c a0 a1 := by kernel_rfl
theorem Zca : Enters Tg 161 := ⟨Tryz.f161,Tryz.func161,by kernel_rfl,by kernel_rfl⟩
theorem Zcb {ds : List D} {d : D} (h : funD Tg Z10 M 4 Zq Tryz.f161 ds = some d) : DataSem Tg 161 ds d := Zo (H := Z10) SpOk.nil mixed InlOk.nil Tryz.func161 Zca h
noncomputable def Z1x : List D → Option D
 | [.list a0n a0c a0,.agg a1] => Z2o M a0n a0c a0 a1
 | _ => none
theorem Zcc : ∀ ds d,Z1x ds = some d → DataSem Tg 161 ds d := by
 intro ds d h
 unfold Z1x at h
 split at h
 ·exact Zcb ((Za3 M _ _ _ _).trans h)
 ·cases h
def Z1o : FnH := ⟨[],[]⟩
noncomputable def Z3d : Hints := ⟨[(161,Z1x)],[],[]⟩
noncomputable def Z2g (m : Nat) (a0n : Nat) (a0c : Option Nat) (a0 : List D) (a1 : List D) : Option D :=
 if (List.length a1) = 34 then
 (Z1x [(D.list a0n a0c a0),(D.agg a1)]).bind fun d1 =>
 (rdI .i64 (some d1)).bind fun x2 =>
 some (D.v (.bool (decide (x2 ≥ (0 : Int)))))
 else none
theorem Z8f (m : Nat) (a0n : Nat) (a0c : Option Nat) (a0 : List D) (a1 : List D) : funD Tg Z3d m 4 Z1o Tryz.f118 [(D.list a0n a0c a0),(D.agg a1)] = Z2g m a0n a0c a0 a1 := by kernel_rfl
theorem Z9h : Enters Tg 118 := ⟨Tryz.f118,Tryz.func118,by kernel_rfl,by kernel_rfl⟩
theorem Z9i {ds : List D} {d : D} (h : funD Tg Z3d M 4 Z1o Tryz.f118 ds = some d) : DataSem Tg 118 ds d := Zo (H := Z3d) (SpOk.cons Zcc SpOk.nil) mixed InlOk.nil Tryz.func118 Z9h h
noncomputable def Z1p : List D → Option D
 | [.list a0n a0c a0,.agg a1] => Z2g M a0n a0c a0 a1
 | _ => none
theorem Z9j : ∀ ds d,Z1p ds = some d → DataSem Tg 118 ds d := by
 intro ds d h
 unfold Z1p at h
 split at h
 ·exact Z9i ((Z8f M _ _ _ _).trans h)
 ·cases h
def Z1z : FnH := ⟨[(6,⟨(bm 117440544 53),[],(some 1),none⟩),(14,⟨(bm 15393162788864 53),[],(some 0),none⟩)],[]⟩
noncomputable def Z38 : Hints := ⟨[(117,Z4v),(160,Z42)],[],[]⟩
noncomputable def Za8 (m n0 : Nat) (Z2h : Nat) (Z3b : Option Nat) (Z25 : List D) (Z2p : Int) (Z1q : Int) (Z48 : List D) : Option D :=
 Z26 (bm 117440544 53) 0 1 (codeK Tg Z38.sp ⟨0,[],false,[]⟩ (inlK Tg Z38 m 4) m Z1z (subc [1,1,1,0,1,0,0] (bodyOf Tryz.f116))) n0 ⟨[Jk,Jk,Jk,Jk,Jk,(AV.ptr 0 0),Jk,Jk,Jk,Jk,Jk,Jk,Jk,Jk,Jk,Jk,Jk,Jk,Jk,Jk,Jk,Jk,Jk,Jk,(AV.d (D.list Z2h Z3b Z25)),(AV.d (D.v (.int .i64 Z2p))),(AV.d (D.v (.int .i64 Z1q))),Jk,Jk,Jk,Jk,Jk,Jk,Jk,Jk,Jk,Jk,Jk,Jk,Jk,Jk,Jk,Jk,Jk,Jk,Jk,Jk,Jk,Jk,Jk,Jk,Jk,Jk],[(Blk.d 18 Z48)]⟩
  (contK Tg Z38.sp ⟨0,[],false,[]⟩ (inlK Tg Z38 m 4) m Z1z (endK Tg Tryz.f116 endV) [.block 0,.code (subc [1,1,1,1] (bodyOf Tryz.f116))])
noncomputable def Z8v (m n0 : Nat) (Zft : Nat) (Zij : Option Nat) (Zg7 : List D) (Zk9 : Int) (Zhu : Int) : Option D :=
 Z26 (bm 15393162788864 53) 0 0 (codeK Tg Z38.sp ⟨0,[],false,[]⟩ (inlK Tg Z38 m 4) m Z1z (subc [1,1,1,1,1,0,1,0,0] (bodyOf Tryz.f116))) n0 ⟨[Jk,Jk,Jk,Jk,Jk,Jk,Jk,Jk,Jk,Jk,Jk,Jk,Jk,Jk,Jk,Jk,Jk,Jk,Jk,Jk,Jk,Jk,Jk,Jk,Jk,Jk,Jk,Jk,Jk,Jk,Jk,Jk,Jk,Jk,Jk,Jk,Jk,Jk,Jk,Jk,Jk,(AV.d (D.list Zft Zij Zg7)),(AV.d (D.v (.int .i64 Zk9))),(AV.d (D.v (.int .i64 Zhu))),Jk,Jk,Jk,Jk,Jk,Jk,Jk,Jk,Jk],[]⟩
  (contK Tg Z38.sp ⟨0,[],false,[]⟩ (inlK Tg Z38 m 4) m Z1z (endK Tg Tryz.f116 endV) [.block 2,.code (subc [1,1,1,1,1,1] (bodyOf Tryz.f116))])
theorem Zsu (m n0 : Nat) (Zft : Nat) (Zij : Option Nat) (Zg7 : List D) (Zk9 : Int) (Zhu : Int) : Z8v m (n0 + 1) Zft Zij Zg7 Zk9 Zhu =
 (cond (decide (Zhu < Zk9))
 (if 0 ≤ Zhu ∧ Zhu < (Zft : Int) then
 if (((Int.toNat Zhu) * 27) + 27) ≤ (List.length Zg7) then
 if (List.length ((List.drop ((Int.toNat Zhu) * 27) Zg7).take 27)) = 27 then
 (Z42 [(D.agg ((List.drop ((Int.toNat Zhu) * 27) Zg7).take 27))]).bind fun d12 =>
 (rdI .i64 (some d12)).bind fun x13 =>
 cond (x13 != (0 : Int))
 (some (D.v (.int .i64 x13)))
 (Z8v m n0 Zft Zij Zg7 Zk9 (IntKind.wrap .i64 (Zhu + (1 : Int))))
 else none
 else none
 else none)
 (some zI)) := by kernel_rfl
theorem Zts (m n0 : Nat) (Z2h : Nat) (Z3b : Option Nat) (Z25 : List D) (Z2p : Int) (Z1q : Int) (Z48 : List D) : Za8 m (n0 + 1) Z2h Z3b Z25 Z2p Z1q Z48 =
 (cond (decide (Z1q < Z2p))
 (if 0 ≤ Z1q ∧ Z1q < (Z2h : Int) then
 if (((Int.toNat Z1q) * 18) + 18) ≤ (List.length Z25) then
 if (List.length ((List.drop ((Int.toNat Z1q) * 18) Z25).take 18)) = 18 then
 (cellsEq [.int,.int,.int,.int,.int,.int,.int,.int,.int,.int,.int,.int,.int,.int,.int,.int,.int] ((List.drop 0 ((List.drop ((Int.toNat Z1q) * 18) Z25).take 18)).take 17) ((List.drop 0 Z48).take 17)).bind fun b5 =>
 cond b5
 (some (D.v (.int .i64 (14 : Int))))
 (Za8 m n0 Z2h Z3b Z25 Z2p (IntKind.wrap .i64 (Z1q + (1 : Int))) Z48)
 else none
 else none
 else none)
 ((rdL Z48[17]?).bind fun q6 =>
 cond (decide ((q6.n : Int) > (8 : Int)))
 (some (D.v (.int .i64 (3 : Int))))
 ((rdL Z48[17]?).bind fun q7 =>
 Z8v m m q7.n q7.cap q7.cs (q7.n : Int) (0 : Int)))) := by kernel_rfl
noncomputable def Zeq (m : Nat) (a0n : Nat) (a0c : Option Nat) (a0 : List D) (a1 : Int) : Option D :=
 if 0 ≤ a1 ∧ a1 < (a0n : Int) then
 if (((Int.toNat a1) * 18) + 18) ≤ (List.length a0) then
 if (List.length ((List.drop ((Int.toNat a1) * 18) a0).take 18)) = 18 then
 (Z4v [(D.agg ((List.drop 0 ((List.drop ((Int.toNat a1) * 18) a0).take 18)).take 17))]).bind fun d1 =>
 (rdI .i64 (some d1)).bind fun x2 =>
 cond (x2 != (0 : Int))
 (some (D.v (.int .i64 x2)))
 (if 0 ≤ a1 ∧ a1 ≤ (a0n : Int) then
 Za8 m m ((Int.toNat a1) - 0) (Option.map (fun q => q - 0) a0c) ((List.drop 0 a0).take (((Int.toNat a1) - 0) * 18)) ((((Int.toNat a1) - 0) : Nat) : Int) (0 : Int) ((List.drop ((Int.toNat a1) * 18) a0).take 18)
 else none)
 else none
 else none
 else none
theorem Zut (m : Nat) (a0n : Nat) (a0c : Option Nat) (a0 : List D) (a1 : Int) : funD Tg Z38 m 4 Z1z Tryz.f116 [(D.list a0n a0c a0),(D.v (.int .i64 a1))] = Zeq m a0n a0c a0 a1 := by kernel_rfl
theorem Zyd : Enters Tg 116 := ⟨Tryz.f116,Tryz.func116,by kernel_rfl,by kernel_rfl⟩
theorem Zye {ds : List D} {d : D} (h : funD Tg Z38 M 4 Z1z Tryz.f116 ds = some d) : DataSem Tg 116 ds d := Zo (H := Z38) (SpOk.cons Zq2 (SpOk.cons Zup SpOk.nil)) mixed InlOk.nil Tryz.func116 Zyd h
noncomputable def Z7r : List D → Option D
 | [.list a0n a0c a0,.v (.int .i64 a1)] => Zeq M a0n a0c a0 a1
 | _ => none
theorem Zyf : ∀ ds d,Z7r ds = some d → DataSem Tg 116 ds d := by
 intro ds d h
 unfold Z7r at h
 split at h
 ·exact Zye ((Zut M _ _ _ _).trans h)
 ·cases h
def Z2a : FnH := ⟨[(5,⟨(bm 393218 56),[],(some 1),none⟩),(12,⟨(bm 7516192770 56),[],(some 1),none⟩)],[]⟩
noncomputable def Z3n : Hints := ⟨[(115,Z9f),(116,Z7r),(117,Z4v),(118,Z1p)],[],[]⟩
noncomputable def Zdb (m n0 : Nat) (Z2h : Int) (Z3b : Int) (Z25 : Bool) (Z2p : Bool) (Z1q : Nat) (Z48 : Option Nat) (Z49 : List D) (Z4p : Bool) (Z57 : Nat) (Z6o : Option Nat) (Z2l : List D) (Z2k : Int) (Z3o : Int) (Z3y : Int) : Option D :=
 Z26 (bm 393218 56) 0 1 (codeK Tg Z3n.sp ⟨0,[],false,[]⟩ (inlK Tg Z3n m 4) m Z2a (subc [1,1,0,1,0,0] (bodyOf Tryz.f66))) n0 ⟨[Jk,(AV.ptr 0 0),Jk,Jk,Jk,Jk,Jk,Jk,Jk,Jk,Jk,Jk,Jk,Jk,Jk,Jk,Jk,(AV.d (D.v (.int .i64 Z2h))),(AV.d (D.v (.int .i64 Z3b))),Jk,Jk,Jk,Jk,Jk,Jk,Jk,Jk,Jk,Jk,Jk,Jk,Jk,Jk,Jk,Jk,Jk,Jk,Jk,Jk,Jk,Jk,Jk,Jk,Jk,Jk,Jk,Jk,Jk,Jk,Jk,Jk,Jk,Jk,Jk,Jk,Jk],[(Blk.d 8 [(D.v (.bool Z25)),(D.v (.bool Z2p)),(D.list Z1q Z48 Z49),(D.v (.bool Z4p)),(D.list Z57 Z6o Z2l),(D.v (.int .i64 Z2k)),(D.v (.int .i64 Z3o)),(D.v (.int .i64 Z3y))])]⟩
  (contK Tg Z3n.sp ⟨0,[],false,[]⟩ (inlK Tg Z3n m 4) m Z2a (endK Tg Tryz.f66 endV) [.block 0,.code (subc [1,1,1] (bodyOf Tryz.f66))])
noncomputable def Za9 (m n0 : Nat) (Zft : Nat) (Zij : Option Nat) (Zg7 : List D) (Zk9 : Int) (Zhu : Int) (Zrl : Bool) (Zo2 : Bool) (Zr8 : Nat) (Zng : Option Nat) (Zvc : List D) (Zh3 : Bool) (Zhv : Int) (Zk1 : Int) (Zh4 : Int) : Option D :=
 Z26 (bm 7516192770 56) 0 1 (codeK Tg Z3n.sp ⟨0,[],false,[]⟩ (inlK Tg Z3n m 4) m Z2a (subc [1,1,1,0,1,0,0] (bodyOf Tryz.f66))) n0 ⟨[Jk,(AV.ptr 0 0),Jk,Jk,Jk,Jk,Jk,Jk,Jk,Jk,Jk,Jk,Jk,Jk,Jk,Jk,Jk,Jk,Jk,Jk,Jk,Jk,Jk,Jk,Jk,Jk,Jk,Jk,Jk,Jk,(AV.d (D.list Zft Zij Zg7)),(AV.d (D.v (.int .i64 Zk9))),(AV.d (D.v (.int .i64 Zhu))),Jk,Jk,Jk,Jk,Jk,Jk,Jk,Jk,Jk,Jk,Jk,Jk,Jk,Jk,Jk,Jk,Jk,Jk,Jk,Jk,Jk,Jk,Jk],[(Blk.d 8 [(D.v (.bool Zrl)),(D.v (.bool Zo2)),(D.list Zr8 Zng Zvc),(D.v (.bool Zh3)),(D.list Zft Zij Zg7),(D.v (.int .i64 Zhv)),(D.v (.int .i64 Zk1)),(D.v (.int .i64 Zh4))])]⟩
  (contK Tg Z3n.sp ⟨0,[],false,[]⟩ (inlK Tg Z3n m 4) m Z2a (endK Tg Tryz.f66 endV) [.block 2,.code (subc [1,1,1,1] (bodyOf Tryz.f66))])
theorem Ztt (m n0 : Nat) (Zft : Nat) (Zij : Option Nat) (Zg7 : List D) (Zk9 : Int) (Zhu : Int) (Zrl : Bool) (Zo2 : Bool) (Zr8 : Nat) (Zng : Option Nat) (Zvc : List D) (Zh3 : Bool) (Zhv : Int) (Zk1 : Int) (Zh4 : Int) : Za9 m (n0 + 1) Zft Zij Zg7 Zk9 Zhu Zrl Zo2 Zr8 Zng Zvc Zh3 Zhv Zk1 Zh4 =
 (cond (decide (Zhu < Zk9))
 (if 0 ≤ Zhu ∧ Zhu < (Zft : Int) then
 if (((Int.toNat Zhu) * 34) + 34) ≤ (List.length Zg7) then
 if (List.length ((List.drop ((Int.toNat Zhu) * 34) Zg7).take 34)) = 34 then
 (Z4v [(D.agg ((List.drop 0 ((List.drop ((Int.toNat Zhu) * 34) Zg7).take 34)).take 17))]).bind fun d21 =>
 (rdI .i64 (some d21)).bind fun x22 =>
 cond (x22 != (0 : Int))
 (some (D.v (.int .i64 x22)))
 ((Z4v [(D.agg ((List.drop 17 ((List.drop ((Int.toNat Zhu) * 34) Zg7).take 34)).take 17))]).bind fun d23 =>
 (rdI .i64 (some d23)).bind fun x24 =>
 cond (x24 != (0 : Int))
 (some (D.v (.int .i64 x24)))
 (if 0 ≤ Zhu ∧ Zhu ≤ (Zft : Int) then
 (Z1p [(D.list ((Int.toNat Zhu) - 0) (Option.map (fun q => q - 0) Zij) ((List.drop 0 Zg7).take (((Int.toNat Zhu) - 0) * 34))),(D.agg ((List.drop ((Int.toNat Zhu) * 34) Zg7).take 34))]).bind fun d25 =>
 (rdB (some d25)).bind fun b26 =>
 cond b26
 (some (D.v (.int .i64 (14 : Int))))
 (Za9 m n0 Zft Zij Zg7 Zk9 (IntKind.wrap .i64 (Zhu + (1 : Int))) Zrl Zo2 Zr8 Zng Zvc Zh3 Zhv Zk1 Zh4)
 else none))
 else none
 else none
 else none)
 (some zI)) := by kernel_rfl
theorem Zuu (m n0 : Nat) (Z2h : Int) (Z3b : Int) (Z25 : Bool) (Z2p : Bool) (Z1q : Nat) (Z48 : Option Nat) (Z49 : List D) (Z4p : Bool) (Z57 : Nat) (Z6o : Option Nat) (Z2l : List D) (Z2k : Int) (Z3o : Int) (Z3y : Int) : Zdb m (n0 + 1) Z2h Z3b Z25 Z2p Z1q Z48 Z49 Z4p Z57 Z6o Z2l Z2k Z3o Z3y =
 (cond (decide (Z3b < Z2h))
 ((Z7r [(D.list Z1q Z48 Z49),(D.v (.int .i64 Z3b))]).bind fun d7 =>
 (rdI .i64 (some d7)).bind fun x8 =>
 cond (x8 != (0 : Int))
 (some (D.v (.int .i64 x8)))
 (Zdb m n0 Z2h (IntKind.wrap .i64 (Z3b + (1 : Int))) Z25 Z2p Z1q Z48 Z49 Z4p Z57 Z6o Z2l Z2k Z3o Z3y))
 (Za9 m m Z57 Z6o Z2l (Z57 : Int) (0 : Int) Z25 Z2p Z1q Z48 Z49 Z4p Z2k Z3o Z3y)) := by kernel_rfl
noncomputable def Zh5 (m : Nat) (a0_0 : Bool) (a0_1 : Bool) (a0_2n : Nat) (a0_2c : Option Nat) (a0_2 : List D) (a0_3 : Bool) (a0_4n : Nat) (a0_4c : Option Nat) (a0_4 : List D) (a0_5 : Int) (a0_6 : Int) (a0_7 : Int) : Option D :=
 (Z9f [(D.agg [(D.v (.bool a0_0)),(D.v (.bool a0_1)),(D.list a0_2n a0_2c a0_2),(D.v (.bool a0_3)),(D.list a0_4n a0_4c a0_4),(D.v (.int .i64 a0_5)),(D.v (.int .i64 a0_6)),(D.v (.int .i64 a0_7))])]).bind fun d1 =>
 (rdI .i64 (some d1)).bind fun x2 =>
 cond (x2 != (0 : Int))
 (some (D.v (.int .i64 x2)))
 (Zdb m m (a0_2n : Int) (0 : Int) a0_0 a0_1 a0_2n a0_2c a0_2 a0_3 a0_4n a0_4c a0_4 a0_5 a0_6 a0_7)
theorem Zws (m : Nat) (a0_0 : Bool) (a0_1 : Bool) (a0_2n : Nat) (a0_2c : Option Nat) (a0_2 : List D) (a0_3 : Bool) (a0_4n : Nat) (a0_4c : Option Nat) (a0_4 : List D) (a0_5 : Int) (a0_6 : Int) (a0_7 : Int) : funD Tg Z3n m 4 Z2a Tryz.f66 [(D.agg [(D.v (.bool a0_0)),(D.v (.bool a0_1)),(D.list a0_2n a0_2c a0_2),(D.v (.bool a0_3)),(D.list a0_4n a0_4c a0_4),(D.v (.int .i64 a0_5)),(D.v (.int .i64 a0_6)),(D.v (.int .i64 a0_7))])] = Zh5 m a0_0 a0_1 a0_2n a0_2c a0_2 a0_3 a0_4n a0_4c a0_4 a0_5 a0_6 a0_7 := by kernel_rfl
theorem Z110 : Enters Tg 66 := ⟨Tryz.f66,Tryz.func66,by kernel_rfl,by kernel_rfl⟩
theorem Z111 {ds : List D} {d : D} (h : funD Tg Z3n M 4 Z2a Tryz.f66 ds = some d) : DataSem Tg 66 ds d := Zo (H := Z3n) (SpOk.cons Z10z (SpOk.cons Zyf (SpOk.cons Zq2 (SpOk.cons Z9j SpOk.nil)))) mixed InlOk.nil Tryz.func66 Z110 h
noncomputable def Z22 : List D → Option D
 | [.agg [.v (.bool a0_0),.v (.bool a0_1),.list a0_2n a0_2c a0_2,.v (.bool a0_3),.list a0_4n a0_4c a0_4,.v (.int .i64 a0_5),.v (.int .i64 a0_6),.v (.int .i64 a0_7)]] => Zh5 M a0_0 a0_1 a0_2n a0_2c a0_2 a0_3 a0_4n a0_4c a0_4 a0_5 a0_6 a0_7
 | _ => none
theorem Zqz : ∀ ds d,Z22 ds = some d → DataSem Tg 66 ds d := by
 intro ds d h
 unfold Z22 at h
 split at h
 ·exact Z111 ((Zws M _ _ _ _ _ _ _ _ _ _ _ _).trans h)
 ·cases h
def Z3t : FnH := ⟨[(6,⟨(bm 28672 24),[],(some 0),none⟩)],[]⟩
noncomputable def Z60 : Hints := ⟨[(66,Z22)],[],[]⟩
noncomputable def Zdc (m n0 : Nat) (Z2h : Nat) (Z3b : Option Nat) (Z25 : List D) (Z2p : Int) (Z1q : Int) : Option D :=
 Z26 (bm 28672 24) 0 0 (codeK Tg Z60.sp ⟨0,[],false,[]⟩ (inlK Tg Z60 m 4) m Z3t (subc [1,1,1,0,1,0,0] (bodyOf Tryz.f79))) n0 ⟨[Jk,Jk,Jk,Jk,Jk,Jk,Jk,Jk,Jk,Jk,Jk,Jk,(AV.d (D.list Z2h Z3b Z25)),(AV.d (D.v (.int .i64 Z2p))),(AV.d (D.v (.int .i64 Z1q))),Jk,Jk,Jk,Jk,Jk,Jk,Jk,Jk,Jk],[]⟩
  (contK Tg Z60.sp ⟨0,[],false,[]⟩ (inlK Tg Z60 m 4) m Z3t (endK Tg Tryz.f79 endV) [.block 0,.code (subc [1,1,1,1] (bodyOf Tryz.f79))])
theorem Zuv (m n0 : Nat) (Z2h : Nat) (Z3b : Option Nat) (Z25 : List D) (Z2p : Int) (Z1q : Int) : Zdc m (n0 + 1) Z2h Z3b Z25 Z2p Z1q =
 (cond (decide (Z1q < Z2p))
 (if 0 ≤ Z1q ∧ Z1q < (Z2h : Int) then
 if (((Int.toNat Z1q) * 8) + 8) ≤ (List.length Z25) then
 if (List.length ((List.drop ((Int.toNat Z1q) * 8) Z25).take 8)) = 8 then
 (Z22 [(D.agg ((List.drop ((Int.toNat Z1q) * 8) Z25).take 8))]).bind fun d5 =>
 (rdI .i64 (some d5)).bind fun x6 =>
 cond (x6 != (0 : Int))
 (some (D.v (.int .i64 x6)))
 (Zdc m n0 Z2h Z3b Z25 Z2p (IntKind.wrap .i64 (Z1q + (1 : Int))))
 else none
 else none
 else none)
 (some zI)) := by kernel_rfl
noncomputable def Zh6 (m : Nat) (a0n : Nat) (a0c : Option Nat) (a0 : List D) : Option D :=
 cond ((a0n : Int) == (0 : Int))
 (some (D.v (.int .i64 (17 : Int))))
 (cond (decide ((a0n : Int) > (64 : Int)))
 (some (D.v (.int .i64 (3 : Int))))
 (Zdc m m a0n a0c a0 (a0n : Int) (0 : Int)))
theorem Zwt (m : Nat) (a0n : Nat) (a0c : Option Nat) (a0 : List D) : funD Tg Z60 m 4 Z3t Tryz.f79 [(D.list a0n a0c a0)] = Zh6 m a0n a0c a0 := by kernel_rfl
theorem Z112 : Enters Tg 79 := ⟨Tryz.f79,Tryz.func79,by kernel_rfl,by kernel_rfl⟩
theorem Z113 {ds : List D} {d : D} (h : funD Tg Z60 M 4 Z3t Tryz.f79 ds = some d) : DataSem Tg 79 ds d := Zo (H := Z60) (SpOk.cons Zqz SpOk.nil) mixed InlOk.nil Tryz.func79 Z112 h
noncomputable def Z9k : List D → Option D
 | [.list a0n a0c a0] => Zh6 M a0n a0c a0
 | _ => none
theorem Z114 : ∀ ds d,Z9k ds = some d → DataSem Tg 79 ds d := by
 intro ds d h
 unfold Z9k at h
 split at h
 ·exact Z113 ((Zwt M _ _ _).trans h)
 ·cases h
end Go.Ev