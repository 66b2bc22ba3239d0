/- Functions of the given program in plain form,printed: each with the proof that it is what the evaluator comes to,and that the program function returns what it says. No conditions. -/
import Derived.Test.YthakkigkdhaihaaGreatDoorEzG4
import Derived.Test.YthakkigkdhaihaaGreatDoorEzG5
set_option linter.unusedVariables false
set_option maxRecDepth 100000
namespace Go.Ev
open Go Go.Proofs
def Z1l : FnH := ⟨[(7,⟨(bm 568 71),[],(some 2),none⟩)],[(6,⟨(bm 56 71),[],(some 2),none⟩)]⟩
noncomputable def Z2e : Hints := ⟨[(8,Z4c),(9,Z18),(15,Z1n),(25,Z5m),(48,Zej),(49,Z4e)],[],[]⟩
noncomputable def Zi9 (m : Nat) (Z3v : Nat) (Z4x : Option Nat) (Z44 : List D) (Z5s : Nat) (Z5q : Option Nat) (Z81 : List D) (Z6g : Nat) (Z8e : Option Nat) (Z6y : List D) (Ze7 : Int) (Z5i : Int) (Z56 : List D) : Option D :=
 cutK m (codeK Tg Z2e.sp ⟨0,[],false,[]⟩ (inlK Tg Z2e m 4) m Z1l (subc [1,1,1,1,1] (bodyOf Tryz.f12)) ⟨[Jk,Jk,Jk,(AV.d (D.list Z3v Z4x Z44)),(AV.ptr 1 0),(AV.d (D.list Z5s Z5q Z81)),Jk,Jk,Jk,Jk,Jk,Jk,Jk,Jk,Jk,Jk,Jk,Jk,Jk,Jk,Jk,Jk,Jk,Jk,Jk,Jk,Jk,Jk,Jk,Jk,Jk,Jk,Jk,Jk,Jk,Jk,Jk,Jk,Jk,Jk,Jk,Jk,Jk,Jk,Jk,Jk,Jk,Jk,Jk,Jk,Jk,Jk,Jk,Jk,Jk,Jk,Jk,Jk,Jk,Jk,Jk,Jk,Jk,Jk,Jk,Jk,Jk,Jk,Jk,Jk,Jk],[(Blk.d 3 [(D.list Z6g Z8e Z6y),(D.v (.int .u8 Ze7)),(D.v (.int .u8 Z5i))]),(Blk.d 4 Z56)]⟩
  (contK Tg Z2e.sp ⟨0,[],false,[]⟩ (inlK Tg Z2e m 4) m Z1l (endK Tg Tryz.f12 endV) []))
noncomputable def Z6m (m n0 : Nat) (Z2h : Nat) (Z3b : Option Nat) (Z25 : List D) (Z2p : Nat) (Z1q : Option Nat) (Z48 : List D) (Z49 : Int) (Z4p : Nat) (Z57 : Option Nat) (Z6o : List D) (Z2l : Int) (Z2k : Int) (Z3o : List D) : Option D :=
 Z26 (bm 568 71) 0 2 (codeK Tg Z2e.sp ⟨0,[],false,[]⟩ (inlK Tg Z2e m 4) m Z1l (subc [1,1,1,1,1,0,1,0,0] (bodyOf Tryz.f12))) n0 ⟨[Jk,Jk,Jk,(AV.d (D.list Z2h Z3b Z25)),(AV.ptr 1 0),(AV.d (D.list Z2p Z1q Z48)),Jk,Jk,Jk,(AV.d (D.v (.int .i64 Z49))),Jk,Jk,Jk,Jk,Jk,Jk,Jk,Jk,Jk,Jk,Jk,Jk,Jk,Jk,Jk,Jk,Jk,Jk,Jk,Jk,Jk,Jk,Jk,Jk,Jk,Jk,Jk,Jk,Jk,Jk,Jk,Jk,Jk,Jk,Jk,Jk,Jk,Jk,Jk,Jk,Jk,Jk,Jk,Jk,Jk,Jk,Jk,Jk,Jk,Jk,Jk,Jk,Jk,Jk,Jk,Jk,Jk,Jk,Jk,Jk,Jk],[(Blk.d 3 [(D.list Z4p Z57 Z6o),(D.v (.int .u8 Z2l)),(D.v (.int .u8 Z2k))]),(Blk.d 4 Z3o)]⟩
  (contK Tg Z2e.sp ⟨0,[],false,[]⟩ (inlK Tg Z2e m 4) m Z1l (endK Tg Tryz.f12 endV) [.block 0,.code (subc [1,1,1,1,1,1] (bodyOf Tryz.f12))])
theorem Zqj (m n0 : Nat) (Z2h : Nat) (Z3b : Option Nat) (Z25 : List D) (Z2p : Nat) (Z1q : Option Nat) (Z48 : List D) (Z49 : Int) (Z4p : Nat) (Z57 : Option Nat) (Z6o : List D) (Z2l : Int) (Z2k : Int) (Z3o : List D) : Z6m m (n0 + 1) Z2h Z3b Z25 Z2p Z1q Z48 Z49 Z4p Z57 Z6o Z2l Z2k Z3o =
 (cond (decide (Z49 < (Z2h : Int)))
 (if 0 ≤ Z49 ∧ Z49 < (Z2p : Int) then
 if (((Int.toNat Z49) * 3) + 3) ≤ (List.length Z48) then
 (Z4e [(D.list Z2h Z3b Z25),(D.agg Z3o),(D.v (.int .i64 (IntKind.wrap .i64 (Z49 + (1 : Int)))))]).bind fun d22 =>
 (rdA (some d22)).bind fun c23 =>
 (cellsEq [.int,.int,.int] ((List.drop ((Int.toNat Z49) * 3) Z48).take 3) c23).bind fun b24 =>
 cond (!b24)
 (some (D.v (.bool false)))
 (Z6m m n0 Z2h Z3b Z25 Z2p Z1q Z48 (IntKind.wrap .i64 (Z49 + (1 : Int))) Z4p Z57 Z6o Z2l Z2k Z3o)
 else none
 else none)
 ((Z1n []).bind fun d25 =>
 (rdB (some d25)).bind fun b26 =>
 some (D.v (.bool b26)))) := by kernel_rfl
theorem Zpg (m : Nat) (Z3v : Nat) (Z4x : Option Nat) (Z44 : List D) (Z5s : Nat) (Z5q : Option Nat) (Z81 : List D) (Z6g : Nat) (Z8e : Option Nat) (Z6y : List D) (Ze7 : Int) (Z5i : Int) (Z56 : List D) : Zi9 m Z3v Z4x Z44 Z5s Z5q Z81 Z6g Z8e Z6y Ze7 Z5i Z56 =
 (Z6m m m Z3v Z4x Z44 Z5s Z5q Z81 (0 : Int) Z6g Z8e Z6y Ze7 Z5i Z56) := (Z12 m _).trans (by kernel_rfl)
noncomputable def Z8x (m : Nat) (a0_0n : Nat) (a0_0c : Option Nat) (a0_0 : List D) (a0_1 : Int) (a0_2 : Int) : Option D :=
 (Z5m [(D.agg [(D.list a0_0n a0_0c a0_0),(D.v (.int .u8 a0_1)),(D.v (.int .u8 a0_2))])]).bind fun d1 =>
 (rdT d1).bind fun r2 =>
 if List.length r2 = 2 then
 (rdL r2[0]?).bind fun q3 =>
 (rdA r2[1]?).bind fun c4 =>
 if (List.length c4) = 4 then
 (Z4c [(D.list q3.n q3.cap q3.cs),(D.agg c4)]).bind fun d5 =>
 (rdT d5).bind fun r6 =>
 if List.length r6 = 2 then
 (rdL r6[0]?).bind fun q7 =>
 (rdI .i64 r6[1]?).bind fun x8 =>
 (Z18 [(D.list q3.n q3.cap q3.cs),(D.agg c4)]).bind fun d9 =>
 (rdT d9).bind fun r10 =>
 if List.length r10 = 2 then
 (rdI .i64 r10[0]?).bind fun x11 =>
 (rdI .i64 r10[1]?).bind fun x12 =>
 cond (x8 != (0 : Int))
 (some (D.v (.bool false)))
 (cond (x12 != (0 : Int))
 (some (D.v (.bool false)))
 (cond ((q7.n : Int) != (q3.n : Int))
 (some (D.v (.bool false)))
 (capO (q7.cap) fun n13 =>
 cond ((n13 : Int) != (q7.n : Int))
 (some (D.v (.bool false)))
 ((Zej [(D.list q3.n q3.cap q3.cs),(D.agg c4)]).bind fun d14 =>
 (rdI .i64 (some d14)).bind fun x15 =>
 cond (x11 != x15)
 (some (D.v (.bool false)))
 (Zi9 m q3.n q3.cap q3.cs q7.n q7.cap q7.cs a0_0n a0_0c a0_0 a0_1 a0_2 c4)))))
 else none
 else none
 else none
 else none
theorem Zrd (m : Nat) (a0_0n : Nat) (a0_0c : Option Nat) (a0_0 : List D) (a0_1 : Int) (a0_2 : Int) : funD Tg Z2e m 4 Z1l Tryz.f12 [(D.agg [(D.list a0_0n a0_0c a0_0),(D.v (.int .u8 a0_1)),(D.v (.int .u8 a0_2))])] = Z8x m a0_0n a0_0c a0_0 a0_1 a0_2 := by kernel_rfl
theorem Zty : Enters Tg 12 := ⟨Tryz.f12,Tryz.func12,by kernel_rfl,by kernel_rfl⟩
theorem Ztz {ds : List D} {d : D} (h : funD Tg Z2e M 4 Z1l Tryz.f12 ds = some d) : DataSem Tg 12 ds d := Zo (H := Z2e) (SpOk.cons Zls (SpOk.cons Zik (SpOk.cons Zj0 (SpOk.cons Zqi (SpOk.cons Z159 (SpOk.cons Zly SpOk.nil)))))) mixed InlOk.nil Tryz.func12 Zty h
noncomputable def Z1h : List D → Option D
 | [.agg [.list a0_0n a0_0c a0_0,.v (.int .u8 a0_1),.v (.int .u8 a0_2)]] => Z8x M a0_0n a0_0c a0_0 a0_1 a0_2
 | _ => none
theorem Zu0 : ∀ ds d,Z1h ds = some d → DataSem Tg 12 ds d := by
 intro ds d h
 unfold Z1h at h
 split at h
 ·exact Ztz ((Zrd M _ _ _ _ _).trans h)
 ·cases h
def Zr : FnH := ⟨[(3,⟨(bm 1549 66),[],(some 0),none⟩),(8,⟨(bm 2573 66),[],(some 0),none⟩),(13,⟨(bm 14861 66),[],(some 0),none⟩)],[(4,⟨(bm 1549 66),[],(some 0),none⟩),(9,⟨(bm 2573 66),[],(some 0),none⟩),(14,⟨(bm 14861 66),[],(some 0),none⟩)]⟩
noncomputable def Z11 : Hints := ⟨[],[],[]⟩
noncomputable def Zho (m n0 : Nat) (Z2h : Nat) (Z3b : Option Nat) (Z25 : List D) (Z2p : Nat) (Z1q : Option Nat) (Z48 : List D) (Z49 : Int) (Z4p : Int) (Z57 : Int) : Option D :=
 Z26 (bm 1549 66) 0 0 (codeK Tg Z11.sp ⟨0,[],false,[]⟩ (inlK Tg Z11 m 4) m Zr (subc [1,1,0,1,0,0] (bodyOf Tryz.f51))) n0 ⟨[(AV.d (D.list Z2h Z3b Z25)),Jk,(AV.d (D.list Z2p Z1q Z48)),(AV.d (D.v (.int .i64 Z49))),Jk,Jk,Jk,Jk,Jk,(AV.d (D.v (.int .i64 Z4p))),(AV.d (D.v (.int .i64 Z57))),Jk,Jk,Jk,Jk,Jk,Jk,Jk,Jk,Jk,Jk,Jk,Jk,Jk,Jk,Jk,Jk,Jk,Jk,Jk,Jk,Jk,Jk,Jk,Jk,Jk,Jk,Jk,Jk,Jk,Jk,Jk,Jk,Jk,Jk,Jk,Jk,Jk,Jk,Jk,Jk,Jk,Jk,Jk,Jk,Jk,Jk,Jk,Jk,Jk,Jk,Jk,Jk,Jk,Jk,Jk],[]⟩
  (contK Tg Z11.sp ⟨0,[],false,[]⟩ (inlK Tg Z11 m 4) m Zr (endK Tg Tryz.f51 endV) [.block 0,.code (subc [1,1,1] (bodyOf Tryz.f51))])
noncomputable def Zkn (m n0 : Nat) (Z3v : Nat) (Z4x : Option Nat) (Z44 : List D) (Z5s : Nat) (Z5q : Option Nat) (Z81 : List D) (Z6g : Int) (Z8e : Int) (Z6y : Int) : Option D :=
 cutK m (codeK Tg Z11.sp ⟨0,[],false,[]⟩ (inlK Tg Z11 m 4) m Zr (subc [1,1,0,1,0,0,1,1] (bodyOf Tryz.f51)) ⟨[(AV.d (D.list Z3v Z4x Z44)),Jk,(AV.d (D.list Z5s Z5q Z81)),(AV.d (D.v (.int .i64 Z6g))),Jk,Jk,Jk,Jk,Jk,(AV.d (D.v (.int .i64 Z8e))),(AV.d (D.v (.int .i64 Z6y))),Jk,Jk,Jk,Jk,Jk,Jk,Jk,Jk,Jk,Jk,Jk,Jk,Jk,Jk,Jk,Jk,Jk,Jk,Jk,Jk,Jk,Jk,Jk,Jk,Jk,Jk,Jk,Jk,Jk,Jk,Jk,Jk,Jk,Jk,Jk,Jk,Jk,Jk,Jk,Jk,Jk,Jk,Jk,Jk,Jk,Jk,Jk,Jk,Jk,Jk,Jk,Jk,Jk,Jk,Jk],[]⟩
  (contK Tg Z11.sp ⟨0,[],false,[]⟩ (inlK Tg Z11 m 4) m Zr (endK Tg Tryz.f51 endV) [.loop (bm 1549 66) 0 (subc [1,1,0,1,0,0] (bodyOf Tryz.f51)) n0,.block 0,.code (subc [1,1,1] (bodyOf Tryz.f51))]))
theorem Znt (m n0 : Nat) (Z3v : Nat) (Z4x : Option Nat) (Z44 : List D) (Z5s : Nat) (Z5q : Option Nat) (Z81 : List D) (Z6g : Int) (Z8e : Int) (Z6y : Int) : Zkn m n0 Z3v Z4x Z44 Z5s Z5q Z81 Z6g Z8e Z6y =
 (Zho m n0 Z3v Z4x Z44 Z5s Z5q Z81 Z6g Z8e (IntKind.wrap .i64 (Z6y + (1 : Int)))) := (Z12 m _).trans (by kernel_rfl)
noncomputable def Zhp (m n0 : Nat) (Zft : Nat) (Zij : Option Nat) (Zg7 : List D) (Zk9 : Nat) (Zhu : Option Nat) (Zrl : List D) (Zo2 : Int) (Zr8 : Int) (Zng : Int) : Option D :=
 Z26 (bm 2573 66) 0 0 (codeK Tg Z11.sp ⟨0,[],false,[]⟩ (inlK Tg Z11 m 4) m Zr (subc [1,1,1,0,1,0,0] (bodyOf Tryz.f51))) n0 ⟨[(AV.d (D.list Zft Zij Zg7)),Jk,(AV.d (D.list Zk9 Zhu Zrl)),(AV.d (D.v (.int .i64 Zo2))),Jk,Jk,Jk,Jk,Jk,(AV.d (D.v (.int .i64 Zr8))),Jk,(AV.d (D.v (.int .i64 Zng))),Jk,Jk,Jk,Jk,Jk,Jk,Jk,Jk,Jk,Jk,Jk,Jk,Jk,Jk,Jk,Jk,Jk,Jk,Jk,Jk,Jk,Jk,Jk,Jk,Jk,Jk,Jk,Jk,Jk,Jk,Jk,Jk,Jk,Jk,Jk,Jk,Jk,Jk,Jk,Jk,Jk,Jk,Jk,Jk,Jk,Jk,Jk,Jk,Jk,Jk,Jk,Jk,Jk,Jk],[]⟩
  (contK Tg Z11.sp ⟨0,[],false,[]⟩ (inlK Tg Z11 m 4) m Zr (endK Tg Tryz.f51 endV) [.block 2,.code (subc [1,1,1,1] (bodyOf Tryz.f51))])
noncomputable def Z9n (m n0 : Nat) (Zfi : Nat) (Zjz : Option Nat) (Zkq : List D) (Zlm : Nat) (Zne : Option Nat) (Zk0 : List D) (Zm8 : Int) (Znf : Int) (Zmd : Int) : Option D :=
 cutK m (codeK Tg Z11.sp ⟨0,[],false,[]⟩ (inlK Tg Z11 m 4) m Zr (subc [1,1,1,0,1,0,0,1,1] (bodyOf Tryz.f51)) ⟨[(AV.d (D.list Zfi Zjz Zkq)),Jk,(AV.d (D.list Zlm Zne Zk0)),(AV.d (D.v (.int .i64 Zm8))),Jk,Jk,Jk,Jk,Jk,(AV.d (D.v (.int .i64 Znf))),Jk,(AV.d (D.v (.int .i64 Zmd))),Jk,Jk,Jk,Jk,Jk,Jk,Jk,Jk,Jk,Jk,Jk,Jk,Jk,Jk,Jk,Jk,Jk,Jk,Jk,Jk,Jk,Jk,Jk,Jk,Jk,Jk,Jk,Jk,Jk,Jk,Jk,Jk,Jk,Jk,Jk,Jk,Jk,Jk,Jk,Jk,Jk,Jk,Jk,Jk,Jk,Jk,Jk,Jk,Jk,Jk,Jk,Jk,Jk,Jk],[]⟩
  (contK Tg Z11.sp ⟨0,[],false,[]⟩ (inlK Tg Z11 m 4) m Zr (endK Tg Tryz.f51 endV) [.loop (bm 2573 66) 0 (subc [1,1,1,0,1,0,0] (bodyOf Tryz.f51)) n0,.block 2,.code (subc [1,1,1,1] (bodyOf Tryz.f51))]))
theorem Zxi (m n0 : Nat) (Zfi : Nat) (Zjz : Option Nat) (Zkq : List D) (Zlm : Nat) (Zne : Option Nat) (Zk0 : List D) (Zm8 : Int) (Znf : Int) (Zmd : Int) : Z9n m n0 Zfi Zjz Zkq Zlm Zne Zk0 Zm8 Znf Zmd =
 (Zhp m n0 Zfi Zjz Zkq Zlm Zne Zk0 Zm8 Znf (IntKind.wrap .i64 (Zmd + (1 : Int)))) := (Z12 m _).trans (by kernel_rfl)
noncomputable def Zez (m n0 n1 : Nat) (Z18u : Nat) (Zze : Option Nat) (Z15s : List D) (Z16i : Nat) (Z16j : Option Nat) (Z1d9 : List D) (Z15t : Int) (Z1e9 : Int) (Z16k : Int) (Z16l : Int) (Zm3 : Int) : Option D :=
 Z26 (bm 14861 66) 0 0 (codeK Tg Z11.sp ⟨0,[],false,[]⟩ (inlK Tg Z11 m 4) m Zr (subc [1,1,1,0,1,0,0,1,0,0,1,1,0,1,0,0] (bodyOf Tryz.f51))) n1 ⟨[(AV.d (D.list Z18u Zze Z15s)),Jk,(AV.d (D.list Z16i Z16j Z1d9)),(AV.d (D.v (.int .i64 Z15t))),Jk,Jk,Jk,Jk,Jk,(AV.d (D.v (.int .i64 Z1e9))),Jk,(AV.d (D.v (.int .i64 Z16k))),(AV.d (D.v (.int .i64 Z16l))),(AV.d (D.v (.int .i64 Zm3))),Jk,Jk,Jk,Jk,Jk,Jk,Jk,Jk,Jk,Jk,Jk,Jk,Jk,Jk,Jk,Jk,Jk,Jk,Jk,Jk,Jk,Jk,Jk,Jk,Jk,Jk,Jk,Jk,Jk,Jk,Jk,Jk,Jk,Jk,Jk,Jk,Jk,Jk,Jk,Jk,Jk,Jk,Jk,Jk,Jk,Jk,Jk,Jk,Jk,Jk,Jk,Jk],[]⟩
  (contK Tg Z11.sp ⟨0,[],false,[]⟩ (inlK Tg Z11 m 4) m Zr (endK Tg Tryz.f51 endV) [.block 4,.code (subc [1,1,1,0,1,0,0,1,0,0,1,1,1] (bodyOf Tryz.f51)),.block 3,.code (subc [1,1,1,0,1,0,0,1,1] (bodyOf Tryz.f51)),.loop (bm 2573 66) 0 (subc [1,1,1,0,1,0,0] (bodyOf Tryz.f51)) n0,.block 2,.code (subc [1,1,1,1] (bodyOf Tryz.f51))])
noncomputable def Zio (m n0 n1 : Nat) (Zo3 : Nat) (Zme : Option Nat) (Zoa : List D) (Zox : Nat) (Zsv : Option Nat) (Znh : List D) (Zsw : Int) (Zsx : Int) (Zsy : Int) (Zvd : Int) (Zg4 : Int) : Option D :=
 cutK m (codeK Tg Z11.sp ⟨0,[],false,[]⟩ (inlK Tg Z11 m 4) m Zr (subc [1,1,1,0,1,0,0,1,0,0,1,1,0,1,0,0,1,1] (bodyOf Tryz.f51)) ⟨[(AV.d (D.list Zo3 Zme Zoa)),Jk,(AV.d (D.list Zox Zsv Znh)),(AV.d (D.v (.int .i64 Zsw))),Jk,Jk,Jk,Jk,Jk,(AV.d (D.v (.int .i64 Zsx))),Jk,(AV.d (D.v (.int .i64 Zsy))),(AV.d (D.v (.int .i64 Zvd))),(AV.d (D.v (.int .i64 Zg4))),Jk,Jk,Jk,Jk,Jk,Jk,Jk,Jk,Jk,Jk,Jk,Jk,Jk,Jk,Jk,Jk,Jk,Jk,Jk,Jk,Jk,Jk,Jk,Jk,Jk,Jk,Jk,Jk,Jk,Jk,Jk,Jk,Jk,Jk,Jk,Jk,Jk,Jk,Jk,Jk,Jk,Jk,Jk,Jk,Jk,Jk,Jk,Jk,Jk,Jk,Jk,Jk],[]⟩
  (contK Tg Z11.sp ⟨0,[],false,[]⟩ (inlK Tg Z11 m 4) m Zr (endK Tg Tryz.f51 endV) [.loop (bm 14861 66) 0 (subc [1,1,1,0,1,0,0,1,0,0,1,1,0,1,0,0] (bodyOf Tryz.f51)) n1,.block 4,.code (subc [1,1,1,0,1,0,0,1,0,0,1,1,1] (bodyOf Tryz.f51)),.block 3,.code (subc [1,1,1,0,1,0,0,1,1] (bodyOf Tryz.f51)),.loop (bm 2573 66) 0 (subc [1,1,1,0,1,0,0] (bodyOf Tryz.f51)) n0,.block 2,.code (subc [1,1,1,1] (bodyOf Tryz.f51))]))
theorem Zm4 (m n0 n1 : Nat) (Zo3 : Nat) (Zme : Option Nat) (Zoa : List D) (Zox : Nat) (Zsv : Option Nat) (Znh : List D) (Zsw : Int) (Zsx : Int) (Zsy : Int) (Zvd : Int) (Zg4 : Int) : Zio m n0 n1 Zo3 Zme Zoa Zox Zsv Znh Zsw Zsx Zsy Zvd Zg4 =
 (Zez m n0 n1 Zo3 Zme Zoa Zox Zsv Znh Zsw Zsx Zsy Zvd (IntKind.wrap .i64 (Zg4 + (1 : Int)))) := (Z12 m _).trans (by kernel_rfl)
theorem Zxj (m n0 n1 : Nat) (Z18u : Nat) (Zze : Option Nat) (Z15s : List D) (Z16i : Nat) (Z16j : Option Nat) (Z1d9 : List D) (Z15t : Int) (Z1e9 : Int) (Z16k : Int) (Z16l : Int) (Zm3 : Int) : Zez m n0 (n1 + 1) Z18u Zze Z15s Z16i Z16j Z1d9 Z15t Z1e9 Z16k Z16l Zm3 =
 (cond (decide (Zm3 < Z15t))
 (if 0 ≤ (IntKind.wrap .i64 (Zm3 - (1 : Int))) ∧ (IntKind.wrap .i64 (Zm3 - (1 : Int))) < (Z18u : Int) then
 (rdB Z15s[(((Int.toNat (IntKind.wrap .i64 (Zm3 - (1 : Int)))) * 8) + 0)]?).bind fun b16 =>
 cond (!b16)
 (Zio m n0 n1 Z18u Zze Z15s Z16i Z16j Z1d9 Z15t Z1e9 Z16k (IntKind.wrap .i64 (Z16l - (1 : Int))) Zm3)
 (Zio m n0 n1 Z18u Zze Z15s Z16i Z16j Z1d9 Z15t Z1e9 Z16k Z16l Zm3)
 else none)
 (Z9n m n0 Z18u Zze Z15s Z16i Z16j Z1d9 Z15t (mm true Z1e9 Z16l) Z16k)) := by kernel_rfl
theorem Z103 (m n0 : Nat) (Zft : Nat) (Zij : Option Nat) (Zg7 : List D) (Zk9 : Nat) (Zhu : Option Nat) (Zrl : List D) (Zo2 : Int) (Zr8 : Int) (Zng : Int) : Zhp m (n0 + 1) Zft Zij Zg7 Zk9 Zhu Zrl Zo2 Zr8 Zng =
 (cond (decide (Zng < Zo2))
 (if 0 ≤ (IntKind.wrap .i64 (Zng - (1 : Int))) ∧ (IntKind.wrap .i64 (Zng - (1 : Int))) < (Zk9 : Int) then
 (rdI .i64 Zrl[((Int.toNat (IntKind.wrap .i64 (Zng - (1 : Int)))) * 1)]?).bind fun x13 =>
 cond (x13 == (-1 : Int))
 (Z9n m n0 Zft Zij Zg7 Zk9 Zhu Zrl Zo2 Zr8 Zng)
 (if 0 ≤ (IntKind.wrap .i64 (Zng - (1 : Int))) ∧ (IntKind.wrap .i64 (Zng - (1 : Int))) < (Zk9 : Int) then
 (rdI .i64 Zrl[((Int.toNat (IntKind.wrap .i64 (Zng - (1 : Int)))) * 1)]?).bind fun x14 =>
 Zez m n0 m Zft Zij Zg7 Zk9 Zhu Zrl Zo2 Zr8 Zng x14 (IntKind.wrap .i64 (Zng + (1 : Int)))
 else none)
 else none)
 (some (D.v (.int .i64 (mm false Zr8 (0 : Int)))))) := by kernel_rfl
theorem Z104 (m n0 : Nat) (Z2h : Nat) (Z3b : Option Nat) (Z25 : List D) (Z2p : Nat) (Z1q : Option Nat) (Z48 : List D) (Z49 : Int) (Z4p : Int) (Z57 : Int) : Zho m (n0 + 1) Z2h Z3b Z25 Z2p Z1q Z48 Z49 Z4p Z57 =
 (cond (decide (Z57 < Z49))
 (if 0 ≤ (IntKind.wrap .i64 (Z57 - (1 : Int))) ∧ (IntKind.wrap .i64 (Z57 - (1 : Int))) < (Z2h : Int) then
 (rdB Z25[(((Int.toNat (IntKind.wrap .i64 (Z57 - (1 : Int)))) * 8) + 0)]?).bind fun b3 =>
 cond (!b3)
 (Zkn m n0 Z2h Z3b Z25 Z2p Z1q Z48 Z49 (IntKind.wrap .i64 (Z4p - (1 : Int))) Z57)
 (Zkn m n0 Z2h Z3b Z25 Z2p Z1q Z48 Z49 Z4p Z57)
 else none)
 (Zhp m m Z2h Z3b Z25 Z2p Z1q Z48 Z49 Z4p (1 : Int))) := by kernel_rfl
noncomputable def Zl5 (m : Nat) (a0n : Nat) (a0c : Option Nat) (a0 : List D) (a1 : Int) (a2n : Nat) (a2c : Option Nat) (a2 : List D) (a3 : Int) : Option D :=
 Zho m m a0n a0c a0 a2n a2c a2 a3 a1 (1 : Int)
theorem Z12f (m : Nat) (a0n : Nat) (a0c : Option Nat) (a0 : List D) (a1 : Int) (a2n : Nat) (a2c : Option Nat) (a2 : List D) (a3 : Int) : funD Tg Z11 m 4 Zr Tryz.f51 [(D.list a0n a0c a0),(D.v (.int .i64 a1)),(D.list a2n a2c a2),(D.v (.int .i64 a3))] = Zl5 m a0n a0c a0 a1 a2n a2c a2 a3 := by kernel_rfl
theorem Z15u : Enters Tg 51 := ⟨Tryz.f51,Tryz.func51,by kernel_rfl,by kernel_rfl⟩
theorem Z15v {ds : List D} {d : D} (h : funD Tg Z11 M 4 Zr Tryz.f51 ds = some d) : DataSem Tg 51 ds d := Zo (H := Z11) SpOk.nil mixed InlOk.nil Tryz.func51 Z15u h
noncomputable def Z6s : List D → Option D
 | [.list a0n a0c a0,.v (.int .i64 a1),.list a2n a2c a2,.v (.int .i64 a3)] => Zl5 M a0n a0c a0 a1 a2n a2c a2 a3
 | _ => none
theorem Z15w : ∀ ds d,Z6s ds = some d → DataSem Tg 51 ds d := by
 intro ds d h
 unfold Z6s at h
 split at h
 ·exact Z15v ((Z12f M _ _ _ _ _ _ _ _).trans h)
 ·cases h
def Zs : FnH := ⟨[(7,⟨(bm 440 108),[(1002000,1),(1002001,1),(1002002,1)],(some 6),none⟩),(14,⟨(bm 1704 108),[],(some 7),none⟩)],[(5,⟨(bm 56 108),[],(some 2),none⟩)]⟩
noncomputable def Zx : Hints := ⟨[(8,Z4c),(11,Z1m),(15,Z1n),(25,Z5m),(50,Z6p),(51,Z6s)],[],[]⟩
noncomputable def Zfu (m : Nat) (Z3v : Nat) (Z4x : Option Nat) (Z44 : List D) (Z5s : Nat) (Z5q : Option Nat) (Z81 : List D) (Z6g : Nat) (Z8e : Option Nat) (Z6y : List D) (Ze7 : Int) (Z5i : Int) (Z56 : List D) : Option D :=
 cutK m (codeK Tg Zx.sp ⟨0,[],false,[]⟩ (inlK Tg Zx m 4) m Zs (subc [1,1,1,1] (bodyOf Tryz.f13)) ⟨[Jk,Jk,Jk,(AV.d (D.list Z3v Z4x Z44)),(AV.ptr 1 0),(AV.d (D.list Z5s Z5q Z81)),Jk,Jk,Jk,Jk,Jk,Jk,Jk,Jk,Jk,Jk,Jk,Jk,Jk,Jk,Jk,Jk,Jk,Jk,Jk,Jk,Jk,Jk,Jk,Jk,Jk,Jk,Jk,Jk,Jk,Jk,Jk,Jk,Jk,Jk,Jk,Jk,Jk,Jk,Jk,Jk,Jk,Jk,Jk,Jk,Jk,Jk,Jk,Jk,Jk,Jk,Jk,Jk,Jk,Jk,Jk,Jk,Jk,Jk,Jk,Jk,Jk,Jk,Jk,Jk,Jk,Jk,Jk,Jk,Jk,Jk,Jk,Jk,Jk,Jk,Jk,Jk,Jk,Jk,Jk,Jk,Jk,Jk,Jk,Jk,Jk,Jk,Jk,Jk,Jk,Jk,Jk,Jk,Jk,Jk,Jk,Jk,Jk,Jk,Jk,Jk,Jk,Jk],[(Blk.d 3 [(D.list Z6g Z8e Z6y),(D.v (.int .u8 Ze7)),(D.v (.int .u8 Z5i))]),(Blk.d 4 Z56)]⟩
  (contK Tg Zx.sp ⟨0,[],false,[]⟩ (inlK Tg Zx m 4) m Zs (endK Tg Tryz.f13 endV) []))
noncomputable def Z5n (m n0 : Nat) (Z2h : Nat) (Z3b : Option Nat) (Z25 : List D) (Z2p : Nat) (Z1q : Option Nat) (Z48 : List D) (Z49 : Int) (Z4p : Nat) (Z57 : Option Nat) (Z6o : List D) (Z2l : Int) (Z2k : Int) (Z3o : List D) (Z3y : Nat) (Z45 : Nat) (Zkk : Nat) (Zm1 : Nat) (Zm2 : List D) (Zv6 : Nat) (Zzb : List D) (Zv7 : Nat) (Zv8 : List D) : Option D :=
 Z26 (bm 440 108) 0 6 (codeK Tg Zx.sp ⟨0,[],false,[]⟩ (inlK Tg Zx m 4) m Zs (subc [1,1,1,1,1,0,1,0,0] (bodyOf Tryz.f13))) n0 ⟨[Jk,Jk,Jk,(AV.d (D.list Z2h Z3b Z25)),(AV.ptr 1 0),(AV.d (D.list Z2p Z1q Z48)),Jk,(AV.ptr 2 0),(AV.d (D.v (.int .i64 Z49))),Jk,Jk,Jk,Jk,Jk,Jk,Jk,Jk,Jk,Jk,Jk,Jk,Jk,Jk,Jk,Jk,Jk,Jk,Jk,Jk,Jk,Jk,Jk,Jk,Jk,Jk,Jk,Jk,Jk,Jk,Jk,Jk,Jk,Jk,Jk,Jk,Jk,Jk,Jk,Jk,Jk,Jk,Jk,Jk,Jk,Jk,Jk,Jk,Jk,Jk,Jk,Jk,Jk,Jk,Jk,Jk,Jk,Jk,Jk,Jk,Jk,Jk,Jk,Jk,Jk,Jk,Jk,Jk,Jk,Jk,Jk,Jk,Jk,Jk,Jk,Jk,Jk,Jk,Jk,Jk,Jk,Jk,Jk,Jk,Jk,Jk,Jk,Jk,Jk,Jk,Jk,Jk,Jk,Jk,Jk,Jk,Jk,Jk,Jk],[(Blk.d 3 [(D.list Z4p Z57 Z6o),(D.v (.int .u8 Z2l)),(D.v (.int .u8 Z2k))]),(Blk.d 4 Z3o),(Blk.a 3 [(AV.sl 3 0 Z3y none 1),(AV.sl 4 0 Z45 none 1),(AV.sl 5 0 Zkk none 1)]),(Blk.d Zm1 Zm2),(Blk.d Zv6 Zzb),(Blk.d Zv7 Zv8)]⟩
  (contK Tg Zx.sp ⟨0,[],false,[]⟩ (inlK Tg Zx m 4) m Zs (endK Tg Tryz.f13 endV) [.block 0,.code (subc [1,1,1,1,1,1] (bodyOf Tryz.f13))])
noncomputable def Z5d (m n0 : Nat) (Zft : Nat) (Zij : Option Nat) (Zg7 : List D) (Zk9 : Nat) (Zhu : Option Nat) (Zrl : List D) (Zo2 : Int) (Zr8 : Nat) (Zng : Option Nat) (Zvc : List D) (Zh3 : Int) (Zhv : Int) (Zk1 : List D) (Zh4 : Nat) (Zl2 : Nat) (Zhi : Nat) (Zi1 : Nat) (Zg6 : List D) (Zqg : Nat) (Zpd : List D) (Zqh : Nat) (Zrc : List D) (Zpe : List D) : Option D :=
 Z26 (bm 1704 108) 0 7 (codeK Tg Zx.sp ⟨0,[],false,[]⟩ (inlK Tg Zx m 4) m Zs (subc [1,1,1,1,1,1,1,0,1,0,0] (bodyOf Tryz.f13))) n0 ⟨[Jk,Jk,Jk,(AV.d (D.list Zft Zij Zg7)),Jk,(AV.d (D.list Zk9 Zhu Zrl)),Jk,(AV.ptr 2 0),Jk,(AV.ptr 6 0),(AV.d (D.v (.int .i64 Zo2))),Jk,Jk,Jk,Jk,Jk,Jk,Jk,Jk,Jk,Jk,Jk,Jk,Jk,Jk,Jk,Jk,Jk,Jk,Jk,Jk,Jk,Jk,Jk,Jk,Jk,Jk,Jk,Jk,Jk,Jk,Jk,Jk,Jk,Jk,Jk,Jk,Jk,Jk,Jk,Jk,Jk,Jk,Jk,Jk,Jk,Jk,Jk,Jk,Jk,Jk,Jk,Jk,Jk,Jk,Jk,Jk,Jk,Jk,Jk,Jk,Jk,Jk,Jk,Jk,Jk,Jk,Jk,Jk,Jk,Jk,Jk,Jk,Jk,Jk,Jk,Jk,Jk,Jk,Jk,Jk,Jk,Jk,Jk,Jk,Jk,Jk,Jk,Jk,Jk,Jk,Jk,Jk,Jk,Jk,Jk,Jk,Jk],[(Blk.d 3 [(D.list Zr8 Zng Zvc),(D.v (.int .u8 Zh3)),(D.v (.int .u8 Zhv))]),(Blk.d 4 Zk1),(Blk.a 3 [(AV.sl 3 0 Zh4 none 1),(AV.sl 4 0 Zl2 none 1),(AV.sl 5 0 Zhi none 1)]),(Blk.d Zi1 Zg6),(Blk.d Zqg Zpd),(Blk.d Zqh Zrc),(Blk.d 3 Zpe)]⟩
  (contK Tg Zx.sp ⟨0,[],false,[]⟩ (inlK Tg Zx m 4) m Zs (endK Tg Tryz.f13 endV) [.block 2,.code (subc [1,1,1,1,1,1,1,1] (bodyOf Tryz.f13))])
theorem Zmf (m n0 : Nat) (Zft : Nat) (Zij : Option Nat) (Zg7 : List D) (Zk9 : Nat) (Zhu : Option Nat) (Zrl : List D) (Zo2 : Int) (Zr8 : Nat) (Zng : Option Nat) (Zvc : List D) (Zh3 : Int) (Zhv : Int) (Zk1 : List D) (Zh4 : Nat) (Zl2 : Nat) (Zhi : Nat) (Zi1 : Nat) (Zg6 : List D) (Zqg : Nat) (Zpd : List D) (Zqh : Nat) (Zrc : List D) (Zpe : List D) : Z5d m (n0 + 1) Zft Zij Zg7 Zk9 Zhu Zrl Zo2 Zr8 Zng Zvc Zh3 Zhv Zk1 Zh4 Zl2 Zhi Zi1 Zg6 Zqg Zpd Zqh Zrc Zpe =
 (cond (decide (Zo2 < (Zft : Int)))
 (if 0 ≤ Zo2 ∧ Zo2 < (Zk9 : Int) then
 if (((Int.toNat Zo2) * 3) + 3) ≤ (List.length Zrl) then
 (rdI .i64 Zpe[0]?).bind fun x44 =>
 if (0 + (Zh4 * 1)) ≤ Zi1 then
 (Z6s [(D.list Zft Zij Zg7),(D.v (.int .i64 x44)),(D.list Zh4 none (cutL Zi1 Zg6 0 (Zh4 * 1))),(D.v (.int .i64 (IntKind.wrap .i64 (Zo2 + (1 : Int)))))]).bind fun d45 =>
 (rdI .i64 (some d45)).bind fun x46 =>
 (rdI .i64 Zpe[1]?).bind fun x47 =>
 if (0 + (Zl2 * 1)) ≤ Zqg then
 (Z6s [(D.list Zft Zij Zg7),(D.v (.int .i64 x47)),(D.list Zl2 none (cutL Zqg Zpd 0 (Zl2 * 1))),(D.v (.int .i64 (IntKind.wrap .i64 (Zo2 + (1 : Int)))))]).bind fun d48 =>
 (rdI .i64 (some d48)).bind fun x49 =>
 (rdI .i64 Zpe[2]?).bind fun x50 =>
 if (0 + (Zhi * 1)) ≤ Zqh then
 (Z6s [(D.list Zft Zij Zg7),(D.v (.int .i64 x50)),(D.list Zhi none (cutL Zqh Zrc 0 (Zhi * 1))),(D.v (.int .i64 (IntKind.wrap .i64 (Zo2 + (1 : Int)))))]).bind fun d51 =>
 (rdI .i64 (some d51)).bind fun x52 =>
 (Z1m [(D.v (.int .i64 x46)),(D.v (.int .i64 x49)),(D.v (.int .i64 x52))]).bind fun d53 =>
 (rdA (some d53)).bind fun c54 =>
 (cellsEq [.int,.int,.int] ((List.drop ((Int.toNat Zo2) * 3) Zrl).take 3) c54).bind fun b55 =>
 cond (!b55)
 (some (D.v (.bool false)))
 (Z5d m n0 Zft Zij Zg7 Zk9 Zhu Zrl (IntKind.wrap .i64 (Zo2 + (1 : Int))) Zr8 Zng Zvc Zh3 Zhv Zk1 Zh4 Zl2 Zhi Zi1 Zg6 Zqg Zpd Zqh Zrc Zpe)
 else none
 else none
 else none
 else none
 else none)
 ((Z1n []).bind fun d56 =>
 (rdB (some d56)).bind fun b57 =>
 some (D.v (.bool b57)))) := by kernel_rfl
theorem Zo7 (m n0 : Nat) (Z2h : Nat) (Z3b : Option Nat) (Z25 : List D) (Z2p : Nat) (Z1q : Option Nat) (Z48 : List D) (Z49 : Int) (Z4p : Nat) (Z57 : Option Nat) (Z6o : List D) (Z2l : Int) (Z2k : Int) (Z3o : List D) (Z3y : Nat) (Z45 : Nat) (Zkk : Nat) (Zm1 : Nat) (Zm2 : List D) (Zv6 : Nat) (Zzb : List D) (Zv7 : Nat) (Zv8 : List D) : Z5n m (n0 + 1) Z2h Z3b Z25 Z2p Z1q Z48 Z49 Z4p Z57 Z6o Z2l Z2k Z3o Z3y Z45 Zkk Zm1 Zm2 Zv6 Zzb Zv7 Zv8 =
 (cond (decide (Z49 < (Z2h : Int)))
 (if 0 ≤ Z49 ∧ Z49 < (Z2h : Int) then
 (rdI .i64 Z25[(((Int.toNat Z49) * 8) + 5)]?).bind fun x15 =>
 if ownB ⟨0,[],false,[]⟩ 3 = true ∧ Zm1 = (Z3y * 1) ∧ Z4y (Z3y + 1) 8 ∧ 1 = 1 then
 if 0 ≤ Z49 ∧ Z49 < (Z2h : Int) then
 (rdI .i64 Z25[(((Int.toNat Z49) * 8) + 6)]?).bind fun x16 =>
 if ownB ⟨0,[],false,[]⟩ 4 = true ∧ Zv6 = (Z45 * 1) ∧ Z4y (Z45 + 1) 8 ∧ 1 = 1 then
 if 0 ≤ Z49 ∧ Z49 < (Z2h : Int) then
 (rdI .i64 Z25[(((Int.toNat Z49) * 8) + 7)]?).bind fun x17 =>
 if ownB ⟨0,[],false,[]⟩ 5 = true ∧ Zv7 = (Zkk * 1) ∧ Z4y (Zkk + 1) 8 ∧ 1 = 1 then
 Z5n m n0 Z2h Z3b Z25 Z2p Z1q Z48 (IntKind.wrap .i64 (Z49 + (1 : Int))) Z4p Z57 Z6o Z2l Z2k Z3o (Z3y + 1) (Z45 + 1) (Zkk + 1) ((Z3y + 1) * 1) (Zm2 ++ [(D.v (.int .i64 x15))]) ((Z45 + 1) * 1) (Zzb ++ [(D.v (.int .i64 x16))]) ((Zkk + 1) * 1) (Zv8 ++ [(D.v (.int .i64 x17))])
 else none
 else none
 else none
 else none
 else none
 else none)
 ((Z6p [(D.v (.int .i64 (Z2h : Int))),(D.agg Z3o)]).bind fun d18 =>
 (rdA (some d18)).bind fun c19 =>
 if (List.length c19) = 3 then
 Z5d m m Z2h Z3b Z25 Z2p Z1q Z48 (0 : Int) Z4p Z57 Z6o Z2l Z2k Z3o Z3y Z45 Zkk Zm1 Zm2 Zv6 Zzb Zv7 Zv8 c19
 else none)) := by kernel_rfl
theorem Zmg (m : Nat) (Z3v : Nat) (Z4x : Option Nat) (Z44 : List D) (Z5s : Nat) (Z5q : Option Nat) (Z81 : List D) (Z6g : Nat) (Z8e : Option Nat) (Z6y : List D) (Ze7 : Int) (Z5i : Int) (Z56 : List D) : Zfu m Z3v Z4x Z44 Z5s Z5q Z81 Z6g Z8e Z6y Ze7 Z5i Z56 =
 (Z5n m m Z3v Z4x Z44 Z5s Z5q Z81 (0 : Int) Z6g Z8e Z6y Ze7 Z5i Z56 0 0 0 0 [] 0 [] 0 []) := (Z12 m _).trans (by kernel_rfl)
noncomputable def Z6n (m : Nat) (a0_0n : Nat) (a0_0c : Option Nat) (a0_0 : List D) (a0_1 : Int) (a0_2 : Int) : Option D :=
 (Z5m [(D.agg [(D.list a0_0n a0_0c a0_0),(D.v (.int .u8 a0_1)),(D.v (.int .u8 a0_2))])]).bind fun d1 =>
 (rdT d1).bind fun r2 =>
 if List.length r2 = 2 then
 (rdL r2[0]?).bind fun q3 =>
 (rdA r2[1]?).bind fun c4 =>
 if (List.length c4) = 4 then
 (Z4c [(D.list q3.n q3.cap q3.cs),(D.agg c4)]).bind fun d5 =>
 (rdT d5).bind fun r6 =>
 if List.length r6 = 2 then
 (rdL r6[0]?).bind fun q7 =>
 (rdI .i64 r6[1]?).bind fun x8 =>
 cond (x8 != (0 : Int))
 (some (D.v (.bool false)))
 (cond ((q7.n : Int) != (q3.n : Int))
 (some (D.v (.bool false)))
 (Zfu m q3.n q3.cap q3.cs q7.n q7.cap q7.cs a0_0n a0_0c a0_0 a0_1 a0_2 c4))
 else none
 else none
 else none
theorem Zph (m : Nat) (a0_0n : Nat) (a0_0c : Option Nat) (a0_0 : List D) (a0_1 : Int) (a0_2 : Int) : funD Tg Zx m 4 Zs Tryz.f13 [(D.agg [(D.list a0_0n a0_0c a0_0),(D.v (.int .u8 a0_1)),(D.v (.int .u8 a0_2))])] = Z6n m a0_0n a0_0c a0_0 a0_1 a0_2 := by kernel_rfl
theorem Zre : Enters Tg 13 := ⟨Tryz.f13,Tryz.func13,by kernel_rfl,by kernel_rfl⟩
theorem Zrf {ds : List D} {d : D} (h : funD Tg Zx M 4 Zs Tryz.f13 ds = some d) : DataSem Tg 13 ds d := Zo (H := Zx) (SpOk.cons Zls (SpOk.cons Zo4 (SpOk.cons Zj0 (SpOk.cons Zqi (SpOk.cons Zud (SpOk.cons Z15w SpOk.nil)))))) mixed InlOk.nil Tryz.func13 Zre h
noncomputable def Zz : List D → Option D
 | [.agg [.list a0_0n a0_0c a0_0,.v (.int .u8 a0_1),.v (.int .u8 a0_2)]] => Z6n M a0_0n a0_0c a0_0 a0_1 a0_2
 | _ => none
theorem Zrg : ∀ ds d,Zz ds = some d → DataSem Tg 13 ds d := by
 intro ds d h
 unfold Zz at h
 split at h
 ·exact Zrf ((Zph M _ _ _ _ _).trans h)
 ·cases h
def Zf : FnH := ⟨[(5,⟨(bm 8162 127),[],(some 3),none⟩)],[(10,⟨(bm 16354 127),[],(some 4),none⟩),(12,⟨(bm 16354 127),[],(some 4),none⟩),(6,⟨(bm 8162 127),[],(some 3),none⟩),(16,⟨(bm 2146 127),[],(some 3),none⟩),(23,⟨(bm 2146 127),[],(some 3),none⟩)]⟩
noncomputable def Zl : Hints := ⟨[(10,Z1g),(15,Z1n),(25,Z5m),(49,Z4e)],[],[]⟩
noncomputable def Z65 (m n0 : Nat) (Z2h : Int) (Z3b : Nat) (Z25 : Option Nat) (Z2p : List D) (Z1q : Int) (Z48 : Int) (Z49 : Int) (Z4p : Int) (Z57 : Int) (Z6o : Nat) (Z2l : Option Nat) (Z2k : List D) (Z3o : Int) (Z3y : Int) (Z45 : List D) (Zkk : Int) (Zm1 : Int) (Zm2 : Int) : Option D :=
 Z26 (bm 8162 127) 0 3 (codeK Tg Zl.sp ⟨0,[],false,[]⟩ (inlK Tg Zl m 4) m Zf (subc [1,1,1,1,0,1,0,0] (bodyOf Tryz.f14))) n0 ⟨[Jk,(AV.d (D.v (.int .u8 Z2h))),Jk,Jk,Jk,(AV.d (D.list Z3b Z25 Z2p)),(AV.ptr 1 0),(AV.d (D.v (.int .i64 Z1q))),(AV.d (D.v (.int .i64 Z48))),(AV.d (D.v (.int .i64 Z49))),(AV.d (D.v (.int .i64 Z4p))),(AV.ptr 2 0),(AV.d (D.v (.int .i64 Z57))),Jk,Jk,Jk,Jk,Jk,Jk,Jk,Jk,Jk,Jk,Jk,Jk,Jk,Jk,Jk,Jk,Jk,Jk,Jk,Jk,Jk,Jk,Jk,Jk,Jk,Jk,Jk,Jk,Jk,Jk,Jk,Jk,Jk,Jk,Jk,Jk,Jk,Jk,Jk,Jk,Jk,Jk,Jk,Jk,Jk,Jk,Jk,Jk,Jk,Jk,Jk,Jk,Jk,Jk,Jk,Jk,Jk,Jk,Jk,Jk,Jk,Jk,Jk,Jk,Jk,Jk,Jk,Jk,Jk,Jk,Jk,Jk,Jk,Jk,Jk,Jk,Jk,Jk,Jk,Jk,Jk,Jk,Jk,Jk,Jk,Jk,Jk,Jk,Jk,Jk,Jk,Jk,Jk,Jk,Jk,Jk,Jk,Jk,Jk,Jk,Jk,Jk,Jk,Jk,Jk,Jk,Jk,Jk,Jk,Jk,Jk,Jk,Jk,Jk],[(Blk.d 3 [(D.list Z6o Z2l Z2k),(D.v (.int .u8 Z3o)),(D.v (.int .u8 Z3y))]),(Blk.d 4 Z45),(Blk.d 3 [(D.v (.int .i64 Zkk)),(D.v (.int .i64 Zm1)),(D.v (.int .i64 Zm2))])]⟩
  (contK Tg Zl.sp ⟨0,[],false,[]⟩ (inlK Tg Zl m 4) m Zf (endK Tg Tryz.f14 endV) [.block 0,.code (subc [1,1,1,1,1] (bodyOf Tryz.f14))])
noncomputable def Z7x (m n0 : Nat) (Z3v : Int) (Z4x : Nat) (Z44 : Option Nat) (Z5s : List D) (Z5q : Int) (Z81 : Int) (Z6g : Int) (Z8e : Int) (Z6y : Int) (Ze7 : Nat) (Z5i : Option Nat) (Z56 : List D) (Zkv : Int) (Zkc : Int) (Zkw : List D) (Zkx : Int) (Zq6 : Int) (Zhw : Int) (Zln : List D) : Option D :=
 cutK m (codeK Tg Zl.sp ⟨0,[],false,[]⟩ (inlK Tg Zl m 4) m Zf (subc [1,1,1,1,0,1,0,0,1,0,0,1,1] (bodyOf Tryz.f14)) ⟨[Jk,(AV.d (D.v (.int .u8 Z3v))),Jk,Jk,Jk,(AV.d (D.list Z4x Z44 Z5s)),(AV.ptr 1 0),(AV.d (D.v (.int .i64 Z5q))),(AV.d (D.v (.int .i64 Z81))),(AV.d (D.v (.int .i64 Z6g))),(AV.d (D.v (.int .i64 Z8e))),(AV.ptr 2 0),(AV.d (D.v (.int .i64 Z6y))),(AV.ptr 3 0),Jk,Jk,Jk,Jk,Jk,Jk,Jk,Jk,Jk,Jk,Jk,Jk,Jk,Jk,Jk,Jk,Jk,Jk,Jk,Jk,Jk,Jk,Jk,Jk,Jk,Jk,Jk,Jk,Jk,Jk,Jk,Jk,Jk,Jk,Jk,Jk,Jk,Jk,Jk,Jk,Jk,Jk,Jk,Jk,Jk,Jk,Jk,Jk,Jk,Jk,Jk,Jk,Jk,Jk,Jk,Jk,Jk,Jk,Jk,Jk,Jk,Jk,Jk,Jk,Jk,Jk,Jk,Jk,Jk,Jk,Jk,Jk,Jk,Jk,Jk,Jk,Jk,Jk,Jk,Jk,Jk,Jk,Jk,Jk,Jk,Jk,Jk,Jk,Jk,Jk,Jk,Jk,Jk,Jk,Jk,Jk,Jk,Jk,Jk,Jk,Jk,Jk,Jk,Jk,Jk,Jk,Jk,Jk,Jk,Jk,Jk,Jk,Jk],[(Blk.d 3 [(D.list Ze7 Z5i Z56),(D.v (.int .u8 Zkv)),(D.v (.int .u8 Zkc))]),(Blk.d 4 Zkw),(Blk.d 3 [(D.v (.int .i64 Zkx)),(D.v (.int .i64 Zq6)),(D.v (.int .i64 Zhw))]),(Blk.d 3 Zln)]⟩
  (contK Tg Zl.sp ⟨0,[],false,[]⟩ (inlK Tg Zl m 4) m Zf (endK Tg Tryz.f14 endV) [.block 1,.code (subc [1,1,1,1,0,1,0,0,1,1] (bodyOf Tryz.f14)),.loop (bm 8162 127) 3 (subc [1,1,1,1,0,1,0,0] (bodyOf Tryz.f14)) n0,.block 0,.code (subc [1,1,1,1,1] (bodyOf Tryz.f14))]))
noncomputable def Z7y (m n0 : Nat) (Zfi : Int) (Zjz : Nat) (Zkq : Option Nat) (Zlm : List D) (Zne : Int) (Zk0 : Int) (Zm8 : Int) (Znf : Int) (Zmd : Int) (Zpk : Nat) (Zbr : Option Nat) (Zh1 : List D) (Zos : Int) (Zot : Int) (Zou : List D) (Zov : Int) (Zow : Int) (Zq7 : Int) (Zyk : List D) : Option D :=
 cutK m (codeK Tg Zl.sp ⟨0,[],false,[]⟩ (inlK Tg Zl m 4) m Zf (subc [1,1,1,1,0,1,0,0,1,0,0,1,1,1] (bodyOf Tryz.f14)) ⟨[Jk,(AV.d (D.v (.int .u8 Zfi))),Jk,Jk,Jk,(AV.d (D.list Zjz Zkq Zlm)),(AV.ptr 1 0),(AV.d (D.v (.int .i64 Zne))),(AV.d (D.v (.int .i64 Zk0))),(AV.d (D.v (.int .i64 Zm8))),(AV.d (D.v (.int .i64 Znf))),(AV.ptr 2 0),(AV.d (D.v (.int .i64 Zmd))),(AV.ptr 3 0),Jk,Jk,Jk,Jk,Jk,Jk,Jk,Jk,Jk,Jk,Jk,Jk,Jk,Jk,Jk,Jk,Jk,Jk,Jk,Jk,Jk,Jk,Jk,Jk,Jk,Jk,Jk,Jk,Jk,Jk,Jk,Jk,Jk,Jk,Jk,Jk,Jk,Jk,Jk,Jk,Jk,Jk,Jk,Jk,Jk,Jk,Jk,Jk,Jk,Jk,Jk,Jk,Jk,Jk,Jk,Jk,Jk,Jk,Jk,Jk,Jk,Jk,Jk,Jk,Jk,Jk,Jk,Jk,Jk,Jk,Jk,Jk,Jk,Jk,Jk,Jk,Jk,Jk,Jk,Jk,Jk,Jk,Jk,Jk,Jk,Jk,Jk,Jk,Jk,Jk,Jk,Jk,Jk,Jk,Jk,Jk,Jk,Jk,Jk,Jk,Jk,Jk,Jk,Jk,Jk,Jk,Jk,Jk,Jk,Jk,Jk,Jk,Jk],[(Blk.d 3 [(D.list Zpk Zbr Zh1),(D.v (.int .u8 Zos)),(D.v (.int .u8 Zot))]),(Blk.d 4 Zou),(Blk.d 3 [(D.v (.int .i64 Zov)),(D.v (.int .i64 Zow)),(D.v (.int .i64 Zq7))]),(Blk.d 3 Zyk)]⟩
  (contK Tg Zl.sp ⟨0,[],false,[]⟩ (inlK Tg Zl m 4) m Zf (endK Tg Tryz.f14 endV) [.block 1,.code (subc [1,1,1,1,0,1,0,0,1,1] (bodyOf Tryz.f14)),.loop (bm 8162 127) 3 (subc [1,1,1,1,0,1,0,0] (bodyOf Tryz.f14)) n0,.block 0,.code (subc [1,1,1,1,1] (bodyOf Tryz.f14))]))
noncomputable def Z5o (m n0 : Nat) (Zo3 : Int) (Zme : Nat) (Zoa : Option Nat) (Zox : List D) (Zsv : Int) (Znh : Int) (Zsw : Int) (Zsx : Int) (Zsy : Int) (Zvd : Nat) (Zg4 : Option Nat) (Zoy : List D) (Zlo : Int) (Zoz : Int) (Zp0 : List D) (Zp1 : Int) (Zp2 : Int) (Zp3 : Int) : Option D :=
 cutK m (codeK Tg Zl.sp ⟨0,[],false,[]⟩ (inlK Tg Zl m 4) m Zf (subc [1,1,1,1,0,1,0,0,1,1] (bodyOf Tryz.f14)) ⟨[Jk,(AV.d (D.v (.int .u8 Zo3))),Jk,Jk,Jk,(AV.d (D.list Zme Zoa Zox)),(AV.ptr 1 0),(AV.d (D.v (.int .i64 Zsv))),(AV.d (D.v (.int .i64 Znh))),(AV.d (D.v (.int .i64 Zsw))),(AV.d (D.v (.int .i64 Zsx))),(AV.ptr 2 0),(AV.d (D.v (.int .i64 Zsy))),Jk,Jk,Jk,Jk,Jk,Jk,Jk,Jk,Jk,Jk,Jk,Jk,Jk,Jk,Jk,Jk,Jk,Jk,Jk,Jk,Jk,Jk,Jk,Jk,Jk,Jk,Jk,Jk,Jk,Jk,Jk,Jk,Jk,Jk,Jk,Jk,Jk,Jk,Jk,Jk,Jk,Jk,Jk,Jk,Jk,Jk,Jk,Jk,Jk,Jk,Jk,Jk,Jk,Jk,Jk,Jk,Jk,Jk,Jk,Jk,Jk,Jk,Jk,Jk,Jk,Jk,Jk,Jk,Jk,Jk,Jk,Jk,Jk,Jk,Jk,Jk,Jk,Jk,Jk,Jk,Jk,Jk,Jk,Jk,Jk,Jk,Jk,Jk,Jk,Jk,Jk,Jk,Jk,Jk,Jk,Jk,Jk,Jk,Jk,Jk,Jk,Jk,Jk,Jk,Jk,Jk,Jk,Jk,Jk,Jk,Jk,Jk,Jk,Jk],[(Blk.d 3 [(D.list Zvd Zg4 Zoy),(D.v (.int .u8 Zlo)),(D.v (.int .u8 Zoz))]),(Blk.d 4 Zp0),(Blk.d 3 [(D.v (.int .i64 Zp1)),(D.v (.int .i64 Zp2)),(D.v (.int .i64 Zp3))])]⟩
  (contK Tg Zl.sp ⟨0,[],false,[]⟩ (inlK Tg Zl m 4) m Zf (endK Tg Tryz.f14 endV) [.loop (bm 8162 127) 3 (subc [1,1,1,1,0,1,0,0] (bodyOf Tryz.f14)) n0,.block 0,.code (subc [1,1,1,1,1] (bodyOf Tryz.f14))]))
theorem Zo8 (m n0 : Nat) (Zo3 : Int) (Zme : Nat) (Zoa : Option Nat) (Zox : List D) (Zsv : Int) (Znh : Int) (Zsw : Int) (Zsx : Int) (Zsy : Int) (Zvd : Nat) (Zg4 : Option Nat) (Zoy : List D) (Zlo : Int) (Zoz : Int) (Zp0 : List D) (Zp1 : Int) (Zp2 : Int) (Zp3 : Int) : Z5o m n0 Zo3 Zme Zoa Zox Zsv Znh Zsw Zsx Zsy Zvd Zg4 Zoy Zlo Zoz Zp0 Zp1 Zp2 Zp3 =
 (Z65 m n0 Zo3 Zme Zoa Zox Zsv Znh Zsw Zsx (IntKind.wrap .i64 (Zsy - (1 : Int))) Zvd Zg4 Zoy Zlo Zoz Zp0 Zp1 Zp2 Zp3) := (Z12 m _).trans (by kernel_rfl)
theorem Z4n (m n0 : Nat) (Zfi : Int) (Zjz : Nat) (Zkq : Option Nat) (Zlm : List D) (Zne : Int) (Zk0 : Int) (Zm8 : Int) (Znf : Int) (Zmd : Int) (Zpk : Nat) (Zbr : Option Nat) (Zh1 : List D) (Zos : Int) (Zot : Int) (Zou : List D) (Zov : Int) (Zow : Int) (Zq7 : Int) (Zyk : List D) : Z7y m n0 Zfi Zjz Zkq Zlm Zne Zk0 Zm8 Znf Zmd Zpk Zbr Zh1 Zos Zot Zou Zov Zow Zq7 Zyk =
 ((rdI .i64 Zyk[2]?).bind fun x33 =>
 cond (x33 == (0 : Int))
 (Z5o m n0 Zfi Zjz Zkq Zlm Zne Zk0 Zm8 Znf Zmd Zpk Zbr Zh1 Zos Zot Zou Zov Zow Zmd)
 (Z5o m n0 Zfi Zjz Zkq Zlm Zne Zk0 Zm8 Znf Zmd Zpk Zbr Zh1 Zos Zot Zou Zov Zow Zq7)) := (Z12 m _).trans (by kernel_rfl)
theorem Zds (m n0 : Nat) (Z3v : Int) (Z4x : Nat) (Z44 : Option Nat) (Z5s : List D) (Z5q : Int) (Z81 : Int) (Z6g : Int) (Z8e : Int) (Z6y : Int) (Ze7 : Nat) (Z5i : Option Nat) (Z56 : List D) (Zkv : Int) (Zkc : Int) (Zkw : List D) (Zkx : Int) (Zq6 : Int) (Zhw : Int) (Zln : List D) : Z7x m n0 Z3v Z4x Z44 Z5s Z5q Z81 Z6g Z8e Z6y Ze7 Z5i Z56 Zkv Zkc Zkw Zkx Zq6 Zhw Zln =
 ((rdI .i64 Zln[1]?).bind fun x32 =>
 cond (x32 == (0 : Int))
 (Z7y m n0 Z3v Z4x Z44 Z5s Z5q Z81 Z6g Z8e Z6y Ze7 Z5i Z56 Zkv Zkc Zkw Zkx Z6y Zhw Zln)
 (Z7y m n0 Z3v Z4x Z44 Z5s Z5q Z81 Z6g Z8e Z6y Ze7 Z5i Z56 Zkv Zkc Zkw Zkx Zq6 Zhw Zln)) := (Z12 m _).trans (by kernel_rfl)
noncomputable def Z7z (m : Nat) (Ztv : Int) (Zve : Nat) (Zxo : Option Nat) (Zxp : List D) (Zvf : Nat) (Zvg : Option Nat) (Zvh : List D) (Zvi : Int) (Zvj : Int) (Zxq : List D) (Zhx : Int) (Zhy : Int) (Zhz : Int) : Option D :=
 cutK m (codeK Tg Zl.sp ⟨0,[],false,[]⟩ (inlK Tg Zl m 4) m Zf (subc [1,1,1,1,1,1] (bodyOf Tryz.f14)) ⟨[Jk,(AV.d (D.v (.int .u8 Ztv))),Jk,Jk,Jk,(AV.d (D.list Zve Zxo Zxp)),(AV.ptr 1 0),Jk,Jk,Jk,Jk,(AV.ptr 2 0),Jk,Jk,Jk,Jk,Jk,Jk,Jk,Jk,Jk,Jk,Jk,Jk,Jk,Jk,Jk,Jk,Jk,Jk,Jk,Jk,Jk,Jk,Jk,Jk,Jk,Jk,Jk,Jk,Jk,Jk,Jk,Jk,Jk,Jk,Jk,Jk,Jk,Jk,Jk,Jk,Jk,Jk,Jk,Jk,Jk,Jk,Jk,Jk,Jk,Jk,Jk,Jk,Jk,Jk,Jk,Jk,Jk,Jk,Jk,Jk,Jk,Jk,Jk,Jk,Jk,Jk,Jk,Jk,Jk,Jk,Jk,Jk,Jk,Jk,Jk,Jk,Jk,Jk,Jk,Jk,Jk,Jk,Jk,Jk,Jk,Jk,Jk,Jk,Jk,Jk,Jk,Jk,Jk,Jk,Jk,Jk,Jk,Jk,Jk,Jk,Jk,Jk,Jk,Jk,Jk,Jk,Jk,Jk,Jk,Jk,Jk,Jk,Jk,Jk,Jk],[(Blk.d 3 [(D.list Zvf Zvg Zvh),(D.v (.int .u8 Zvi)),(D.v (.int .u8 Zvj))]),(Blk.d 4 Zxq),(Blk.d 3 [(D.v (.int .i64 Zhx)),(D.v (.int .i64 Zhy)),(D.v (.int .i64 Zhz))])]⟩
  (contK Tg Zl.sp ⟨0,[],false,[]⟩ (inlK Tg Zl m 4) m Zf (endK Tg Tryz.f14 endV) []))
noncomputable def Z3g (m : Nat) (Zrb : Int) (Z13q : Nat) (Z154 : Option Nat) (Z18s : List D) (Z17t : Nat) (Z14x : Option Nat) (Z17u : List D) (Z14y : Int) (Z17v : Int) (Z18t : List D) (Zp8 : Int) (Zp9 : Int) (Zpa : Int) : Option D :=
 cutK m (codeK Tg Zl.sp ⟨0,[],false,[]⟩ (inlK Tg Zl m 4) m Zf (subc [1,1,1,1,1,1,1] (bodyOf Tryz.f14)) ⟨[Jk,(AV.d (D.v (.int .u8 Zrb))),Jk,Jk,Jk,(AV.d (D.list Z13q Z154 Z18s)),(AV.ptr 1 0),Jk,Jk,Jk,Jk,(AV.ptr 2 0),Jk,Jk,Jk,Jk,Jk,Jk,Jk,Jk,Jk,Jk,Jk,Jk,Jk,Jk,Jk,Jk,Jk,Jk,Jk,Jk,Jk,Jk,Jk,Jk,Jk,Jk,Jk,Jk,Jk,Jk,Jk,Jk,Jk,Jk,Jk,Jk,Jk,Jk,Jk,Jk,Jk,Jk,Jk,Jk,Jk,Jk,Jk,Jk,Jk,Jk,Jk,Jk,Jk,Jk,Jk,Jk,Jk,Jk,Jk,Jk,Jk,Jk,Jk,Jk,Jk,Jk,Jk,Jk,Jk,Jk,Jk,Jk,Jk,Jk,Jk,Jk,Jk,Jk,Jk,Jk,Jk,Jk,Jk,Jk,Jk,Jk,Jk,Jk,Jk,Jk,Jk,Jk,Jk,Jk,Jk,Jk,Jk,Jk,Jk,Jk,Jk,Jk,Jk,Jk,Jk,Jk,Jk,Jk,Jk,Jk,Jk,Jk,Jk,Jk,Jk],[(Blk.d 3 [(D.list Z17t Z14x Z17u),(D.v (.int .u8 Z14y)),(D.v (.int .u8 Z17v))]),(Blk.d 4 Z18t),(Blk.d 3 [(D.v (.int .i64 Zp8)),(D.v (.int .i64 Zp9)),(D.v (.int .i64 Zpa))])]⟩
  (contK Tg Zl.sp ⟨0,[],false,[]⟩ (inlK Tg Zl m 4) m Zf (endK Tg Tryz.f14 endV) []))
theorem Zmh (m : Nat) (Zrb : Int) (Z13q : Nat) (Z154 : Option Nat) (Z18s : List D) (Z17t : Nat) (Z14x : Option Nat) (Z17u : List D) (Z14y : Int) (Z17v : Int) (Z18t : List D) (Zp8 : Int) (Zp9 : Int) (Zpa : Int) : Z3g m Zrb Z13q Z154 Z18s Z17t Z14x Z17u Z14y Z17v Z18t Zp8 Zp9 Zpa =
 (if 0 ≤ (Int.tmod Zrb (3 : Int)) ∧ (Int.tmod Zrb (3 : Int)) < (3 : Int) then
 if 1 = 1 ∧ (0 + ((Int.toNat (Int.tmod Zrb (3 : Int))) * 1)) < 3 then
 (Z1g [(D.list Z13q Z154 Z18s),(D.agg Z18t)]).bind fun d34 =>
 (rdT d34).bind fun r35 =>
 if List.length r35 = 4 then
 (rdI .i64 r35[0]?).bind fun x36 =>
 (rdI .i64 r35[1]?).bind fun x37 =>
 (rdI .i64 r35[2]?).bind fun x38 =>
 (rdI .i64 r35[3]?).bind fun x39 =>
 cond (x39 == (0 : Int))
 ((rdI .i64 (List.set [(D.v (.int .i64 Zp8)),(D.v (.int .i64 Zp9)),(D.v (.int .i64 Zpa))] (0 + ((Int.toNat (Int.tmod Zrb (3 : Int))) * 1)) (D.v (.int .i64 (1 : Int))))[0]?).bind fun x40 =>
 cond (x36 == x40)
 ((rdI .i64 (List.set [(D.v (.int .i64 Zp8)),(D.v (.int .i64 Zp9)),(D.v (.int .i64 Zpa))] (0 + ((Int.toNat (Int.tmod Zrb (3 : Int))) * 1)) (D.v (.int .i64 (1 : Int))))[1]?).bind fun x41 =>
 cond (x37 == x41)
 ((rdI .i64 (List.set [(D.v (.int .i64 Zp8)),(D.v (.int .i64 Zp9)),(D.v (.int .i64 Zpa))] (0 + ((Int.toNat (Int.tmod Zrb (3 : Int))) * 1)) (D.v (.int .i64 (1 : Int))))[2]?).bind fun x42 =>
 cond (x38 == x42)
 ((Z1n []).bind fun d43 =>
 (rdB (some d43)).bind fun b44 =>
 some (D.v (.bool b44)))
 (some (D.v (.bool false))))
 (some (D.v (.bool false))))
 (some (D.v (.bool false))))
 (some (D.v (.bool false)))
 else none
 else none
 else none) := (Z12 m _).trans (by kernel_rfl)
theorem Zmi (m : Nat) (Ztv : Int) (Zve : Nat) (Zxo : Option Nat) (Zxp : List D) (Zvf : Nat) (Zvg : Option Nat) (Zvh : List D) (Zvi : Int) (Zvj : Int) (Zxq : List D) (Zhx : Int) (Zhy : Int) (Zhz : Int) : Z7z m Ztv Zve Zxo Zxp Zvf Zvg Zvh Zvi Zvj Zxq Zhx Zhy Zhz =
 (cond ((Int.tmod Ztv (3 : Int)) == (0 : Int))
 (Z3g m Ztv Zve Zxo Zxp Zvf Zvg Zvh Zvi Zvj (List.set Zxq 1 (D.v (.bool true))) Zhx Zhy Zhz)
 (cond ((Int.tmod Ztv (3 : Int)) == (1 : Int))
 (Z3g m Ztv Zve Zxo Zxp Zvf Zvg Zvh Zvi Zvj (List.set Zxq 2 (D.v (.bool true))) Zhx Zhy Zhz)
 (cond ((Int.tmod Ztv (3 : Int)) == (2 : Int))
 (Z3g m Ztv Zve Zxo Zxp Zvf Zvg Zvh Zvi Zvj (List.set Zxq 3 (D.v (.bool true))) Zhx Zhy Zhz)
 (Z3g m Ztv Zve Zxo Zxp Zvf Zvg Zvh Zvi Zvj Zxq Zhx Zhy Zhz)))) := (Z12 m _).trans (by kernel_rfl)
theorem Zpi (m n0 : Nat) (Z2h : Int) (Z3b : Nat) (Z25 : Option Nat) (Z2p : List D) (Z1q : Int) (Z48 : Int) (Z49 : Int) (Z4p : Int) (Z57 : Int) (Z6o : Nat) (Z2l : Option Nat) (Z2k : List D) (Z3o : Int) (Z3y : Int) (Z45 : List D) (Zkk : Int) (Zm1 : Int) (Zm2 : Int) : Z65 m (n0 + 1) Z2h Z3b Z25 Z2p Z1q Z48 Z49 Z4p Z57 Z6o Z2l Z2k Z3o Z3y Z45 Zkk Zm1 Zm2 =
 (cond (decide (Z57 ≥ (1 : Int)))
 ((Z4e [(D.list Z3b Z25 Z2p),(D.agg Z45),(D.v (.int .i64 Z57))]).bind fun d29 =>
 (rdA (some d29)).bind fun c30 =>
 if (List.length c30) = 3 then
 (rdI .i64 c30[0]?).bind fun x31 =>
 cond (x31 == (0 : Int))
 (Z7x m n0 Z2h Z3b Z25 Z2p Z1q Z48 Z49 Z4p Z57 Z6o Z2l Z2k Z3o Z3y Z45 Z57 Zm1 Zm2 c30)
 (Z7x m n0 Z2h Z3b Z25 Z2p Z1q Z48 Z49 Z4p Z57 Z6o Z2l Z2k Z3o Z3y Z45 Zkk Zm1 Zm2 c30)
 else none)
 (cond (Z4p != (0 : Int))
 (some (D.v (.bool false)))
 (cond (Z1q != Zkk)
 (some (D.v (.bool false)))
 (cond (Z48 != Zm1)
 (some (D.v (.bool false)))
 (cond (Z49 != Zm2)
 (some (D.v (.bool false)))
 (Z7z m Z2h Z3b Z25 Z2p Z6o Z2l Z2k Z3o Z3y Z45 Zkk Zm1 Zm2)))))) := by kernel_rfl
noncomputable def Z7f (m : Nat) (a0_0n : Nat) (a0_0c : Option Nat) (a0_0 : List D) (a0_1 : Int) (a0_2 : Int) (a1 : Int) : Option D :=
 (Z5m [(D.agg [(D.list a0_0n a0_0c a0_0),(D.v (.int .u8 a0_1)),(D.v (.int .u8 a0_2))])]).bind fun d1 =>
 (rdT d1).bind fun r2 =>
 if List.length r2 = 2 then
 (rdL r2[0]?).bind fun q3 =>
 (rdA r2[1]?).bind fun c4 =>
 if (List.length c4) = 4 then
 (Z1g [(D.list q3.n q3.cap q3.cs),(D.agg c4)]).bind fun d5 =>
 (rdT d5).bind fun r6 =>
 if List.length r6 = 4 then
 (rdI .i64 r6[0]?).bind fun x7 =>
 (rdI .i64 r6[1]?).bind fun x8 =>
 (rdI .i64 r6[2]?).bind fun x9 =>
 (rdI .i64 r6[3]?).bind fun x10 =>
 Z65 m m a1 q3.n q3.cap q3.cs x7 x8 x9 x10 (q3.n : Int) a0_0n a0_0c a0_0 a0_1 a0_2 c4 (IntKind.wrap .i64 ((q3.n : Int) + (1 : Int))) (IntKind.wrap .i64 ((q3.n : Int) + (1 : Int))) (IntKind.wrap .i64 ((q3.n : Int) + (1 : Int)))
 else none
 else none
 else none
theorem Zqk (m : Nat) (a0_0n : Nat) (a0_0c : Option Nat) (a0_0 : List D) (a0_1 : Int) (a0_2 : Int) (a1 : Int) : funD Tg Zl m 4 Zf Tryz.f14 [(D.agg [(D.list a0_0n a0_0c a0_0),(D.v (.int .u8 a0_1)),(D.v (.int .u8 a0_2))]),(D.v (.int .u8 a1))] = Z7f m a0_0n a0_0c a0_0 a0_1 a0_2 a1 := by kernel_rfl
theorem Zta : Enters Tg 14 := ⟨Tryz.f14,Tryz.func14,by kernel_rfl,by kernel_rfl⟩
theorem Ztb {ds : List D} {d : D} (h : funD Tg Zl M 4 Zf Tryz.f14 ds = some d) : DataSem Tg 14 ds d := Zo (H := Zl) (SpOk.cons Zkh (SpOk.cons Zj0 (SpOk.cons Zqi (SpOk.cons Zly SpOk.nil)))) mixed InlOk.nil Tryz.func14 Zta h
noncomputable def Z15 : List D → Option D
 | [.agg [.list a0_0n a0_0c a0_0,.v (.int .u8 a0_1),.v (.int .u8 a0_2)],.v (.int .u8 a1)] => Z7f M a0_0n a0_0c a0_0 a0_1 a0_2 a1
 | _ => none
theorem Ztc : ∀ ds d,Z15 ds = some d → DataSem Tg 14 ds d := by
 intro ds d h
 unfold Z15 at h
 split at h
 ·exact Ztb ((Zqk M _ _ _ _ _ _).trans h)
 ·cases h
end Go.Ev