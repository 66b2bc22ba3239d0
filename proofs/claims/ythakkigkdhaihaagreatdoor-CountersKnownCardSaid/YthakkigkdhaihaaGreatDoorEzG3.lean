/- Functions of the given program in plain form,printed: each with the proof that it is what the evaluator comes to,and that the program function returns what it says. No conditions. -/
import Derived.Test.YthakkigkdhaihaaGreatDoorEzG2
set_option linter.unusedVariables false
set_option maxRecDepth 100000
namespace Go.Ev
open Go Go.Proofs
def Z4b : FnH := ⟨[],[]⟩
noncomputable def Zcd : Hints := ⟨[],[],[]⟩
noncomputable def Zk2 (m : Nat) (a0 : Int) (a1 : Int) (a2 : Int) : Option D :=
 cond ((mm true a0 a1) == a1)
 (some (D.v (.bool ((mm false a0 a2) == a2))))
 (some (D.v (.bool false)))
theorem Zoq (m : Nat) (a0 : Int) (a1 : Int) (a2 : Int) : funD Tg Zcd m 4 Z4b Tryz.f109 [(D.v (.int .i64 a0)),(D.v (.int .i64 a1)),(D.v (.int .i64 a2))] = Zk2 m a0 a1 a2 := by kernel_rfl
theorem Zr9 : Enters Tg 109 := ⟨Tryz.f109,Tryz.func109,by kernel_rfl,by kernel_rfl⟩
theorem Zra {ds : List D} {d : D} (h : funD Tg Zcd M 4 Z4b Tryz.f109 ds = some d) : DataSem Tg 109 ds d := Zo (H := Zcd) SpOk.nil mixed InlOk.nil Tryz.func109 Zr9 h
noncomputable def Z2q : List D → Option D
 | [.v (.int .i64 a0),.v (.int .i64 a1),.v (.int .i64 a2)] => Zk2 M a0 a1 a2
 | _ => none
theorem Zi8 : ∀ ds d,Z2q ds = some d → DataSem Tg 109 ds d := by
 intro ds d h
 unfold Z2q at h
 split at h
 ·exact Zra ((Zoq M _ _ _).trans h)
 ·cases h
def Z6h : FnH := ⟨[],[]⟩
noncomputable def Zka : Hints := ⟨[(109,Z2q)],[],[]⟩
noncomputable def Zr0 (m : Nat) (a0_0 : Int) (a0_1 : Int) (a0_2 : Int) : Option D :=
 (Z2q [(D.v (.int .i64 a0_0)),zI,(D.v (.int .i64 (65 : Int)))]).bind fun d1 =>
 (rdB (some d1)).bind fun b2 =>
 cond b2
 ((Z2q [(D.v (.int .i64 a0_1)),zI,(D.v (.int .i64 (65 : Int)))]).bind fun d3 =>
 (rdB (some d3)).bind fun b4 =>
 cond b4
 ((Z2q [(D.v (.int .i64 a0_2)),zI,(D.v (.int .i64 (65 : Int)))]).bind fun d5 =>
 (rdB (some d5)).bind fun b6 =>
 cond b6
 (some zI)
 (some (D.v (.int .i64 (1 : Int)))))
 (some (D.v (.int .i64 (1 : Int)))))
 (some (D.v (.int .i64 (1 : Int))))
theorem Zuw (m : Nat) (a0_0 : Int) (a0_1 : Int) (a0_2 : Int) : funD Tg Zka m 4 Z6h Tryz.f55 [(D.agg [(D.v (.int .i64 a0_0)),(D.v (.int .i64 a0_1)),(D.v (.int .i64 a0_2))])] = Zr0 m a0_0 a0_1 a0_2 := by kernel_rfl
theorem Zyg : Enters Tg 55 := ⟨Tryz.f55,Tryz.func55,by kernel_rfl,by kernel_rfl⟩
theorem Zyh {ds : List D} {d : D} (h : funD Tg Zka M 4 Z6h Tryz.f55 ds = some d) : DataSem Tg 55 ds d := Zo (H := Zka) (SpOk.cons Zi8 SpOk.nil) mixed InlOk.nil Tryz.func55 Zyg h
noncomputable def Z7s : List D → Option D
 | [.agg [.v (.int .i64 a0_0),.v (.int .i64 a0_1),.v (.int .i64 a0_2)]] => Zr0 M a0_0 a0_1 a0_2
 | _ => none
theorem Zor : ∀ ds d,Z7s ds = some d → DataSem Tg 55 ds d := by
 intro ds d h
 unfold Z7s at h
 split at h
 ·exact Zyh ((Zuw M _ _ _).trans h)
 ·cases h
def Z6i : FnH := ⟨[],[]⟩
def Zfj : FnH := ⟨[],[]⟩
noncomputable def Zkb : Hints := ⟨[],[(154,Tryz.f154,Zfj)],[]⟩
noncomputable def Zer (m : Nat) (a0 : Int) (a1_0n : Nat) (a1_0c : Option Nat) (a1_0 : List D) (a1_1 : Bool) (a1_2 : Bool) (a1_3 : Bool) : Option D :=
 cond a1_1
 (cond a1_2
 (cond a1_3
 (some (D.agg [zI,zI,zI]))
 (some (D.agg [zI,zI,(D.v (.int .i64 (IntKind.wrap .i64 (a0 + (1 : Int)))))])))
 (cond a1_3
 (some (D.agg [zI,(D.v (.int .i64 (IntKind.wrap .i64 (a0 + (1 : Int))))),zI]))
 (some (D.agg [zI,(D.v (.int .i64 (IntKind.wrap .i64 (a0 + (1 : Int))))),(D.v (.int .i64 (IntKind.wrap .i64 (a0 + (1 : Int)))))]))))
 (cond a1_2
 (cond a1_3
 (some (D.agg [(D.v (.int .i64 (IntKind.wrap .i64 (a0 + (1 : Int))))),zI,zI]))
 (some (D.agg [(D.v (.int .i64 (IntKind.wrap .i64 (a0 + (1 : Int))))),zI,(D.v (.int .i64 (IntKind.wrap .i64 (a0 + (1 : Int)))))])))
 (cond a1_3
 (some (D.agg [(D.v (.int .i64 (IntKind.wrap .i64 (a0 + (1 : Int))))),(D.v (.int .i64 (IntKind.wrap .i64 (a0 + (1 : Int))))),zI]))
 (some (D.agg [(D.v (.int .i64 (IntKind.wrap .i64 (a0 + (1 : Int))))),(D.v (.int .i64 (IntKind.wrap .i64 (a0 + (1 : Int))))),(D.v (.int .i64 (IntKind.wrap .i64 (a0 + (1 : Int)))))]))))
theorem Zux (m : Nat) (a0 : Int) (a1_0n : Nat) (a1_0c : Option Nat) (a1_0 : List D) (a1_1 : Bool) (a1_2 : Bool) (a1_3 : Bool) : funD Tg Zkb m 4 Z6i Tryz.f105 [(D.v (.int .i64 a0)),(D.agg [(D.list a1_0n a1_0c a1_0),(D.v (.bool a1_1)),(D.v (.bool a1_2)),(D.v (.bool a1_3))])] = Zer m a0 a1_0n a1_0c a1_0 a1_1 a1_2 a1_3 := by kernel_rfl
theorem Zyi : Enters Tg 105 := ⟨Tryz.f105,Tryz.func105,by kernel_rfl,by kernel_rfl⟩
theorem Zyj {ds : List D} {d : D} (h : funD Tg Zkb M 4 Z6i Tryz.f105 ds = some d) : DataSem Tg 105 ds d := Zo (H := Zkb) SpOk.nil mixed (InlOk.cons Tryz.func154 Zuk InlOk.nil) Tryz.func105 Zyi h
noncomputable def Z2b : List D → Option D
 | [.v (.int .i64 a0),.agg [.list a1_0n a1_0c a1_0,.v (.bool a1_1),.v (.bool a1_2),.v (.bool a1_3)]] => Zer M a0 a1_0n a1_0c a1_0 a1_1 a1_2 a1_3
 | _ => none
theorem Z5r : ∀ ds d,Z2b ds = some d → DataSem Tg 105 ds d := by
 intro ds d h
 unfold Z2b at h
 split at h
 ·exact Zyj ((Zux M _ _ _ _ _ _ _).trans h)
 ·cases h
def Zg : FnH := ⟨[],[]⟩
def Z4 : FnH := ⟨[],[(3,⟨(bm 3 21),[],(some 0),none⟩)]⟩
noncomputable def Z0 : Hints := ⟨[],[(155,Tryz.f155,Z4)],[]⟩
noncomputable def Z39 (m : Nat) (a0_0 : Int) (a0_1 : Int) (a0_2 : Int) (a1_0 : Bool) (a1_1 : Bool) (a1_2n : Nat) (a1_2c : Option Nat) (a1_2 : List D) (a1_3 : Bool) (a1_4n : Nat) (a1_4c : Option Nat) (a1_4 : List D) (a1_5 : Int) (a1_6 : Int) (a1_7 : Int) (Z3v : Int) (Z4x : Int) (Z44 : Int) (Z5s : Int) (Z5q : Int) (Z81 : Bool) (Z6g : Bool) (Z8e : Nat) (Z6y : Option Nat) (Ze7 : List D) (Z5i : Bool) (Z56 : Nat) (Zkv : Option Nat) (Zkc : List D) (Zkw : Int) (Zkx : Int) (Zq6 : Int) (Zhw : Int) (Zln : Int) (Ztu : Int) : Option D :=
 cutK m (codeK Tg Z0.sp ⟨3,[],true,[]⟩ (inlK Tg Z0 m 3) m Z4 (subc [1,1] (bodyOf Tryz.f155)) ⟨[(AV.d (D.v (.int .i64 Z3v))),(AV.d (D.v (.int .i64 Z4x))),Jk,Jk,Jk,Jk,Jk,Jk,Jk,Jk,Jk,Jk,Jk,Jk,Jk,Jk,Jk,Jk,Jk,Jk,Jk],[(Blk.d 3 [(D.v (.int .i64 Z44)),(D.v (.int .i64 Z5s)),(D.v (.int .i64 Z5q))]),(Blk.d 8 [(D.v (.bool Z81)),(D.v (.bool Z6g)),(D.list Z8e Z6y Ze7),(D.v (.bool Z5i)),(D.list Z56 Zkv Zkc),(D.v (.int .i64 Zkw)),(D.v (.int .i64 Zkx)),(D.v (.int .i64 Zq6))]),(Blk.d 3 [(D.v (.int .i64 Zhw)),(D.v (.int .i64 Zln)),(D.v (.int .i64 Ztu))])]⟩
  (contK Tg Z0.sp ⟨3,[],true,[]⟩ (inlK Tg Z0 m 3) m Z4 (endK Tg Tryz.f155 (fun v L => opsK Tg Z0.sp ⟨0,[],false,[]⟩ [true,true] (inlK Tg Z0 m 4) (regOps (subc [1,1,0] (bodyOf Tryz.f106))) (List.drop 18 (Array.toList (regOps (subc [1,1,0] (bodyOf Tryz.f106))))) ⟨setSl [(AV.d (D.agg [(D.v (.int .i64 a0_0)),(D.v (.int .i64 a0_1)),(D.v (.int .i64 a0_2))])),(AV.d (D.agg [(D.v (.bool a1_0)),(D.v (.bool a1_1)),(D.list a1_2n a1_2c a1_2),(D.v (.bool a1_3)),(D.list a1_4n a1_4c a1_4),(D.v (.int .i64 a1_5)),(D.v (.int .i64 a1_6)),(D.v (.int .i64 a1_7))])),(AV.ptr 0 0),(AV.ptr 1 0),(AV.ptr 2 0),(AV.clo 155 [(AV.ptr 1 0)]),(AV.clo 155 [(AV.ptr 1 0)]),(AV.clo 155 [(AV.ptr 1 0)]),(AV.ptr 0 0),(AV.d (D.v (.int .i64 a0_0))),(AV.ptr 1 5),(AV.d (D.v (.int .i64 a1_5))),(AV.d (D.v (.int .i64 (mm true (IntKind.wrap .i64 (a0_0 - (1 : Int))) a1_5)))),(AV.clo 155 [(AV.ptr 1 0)]),(AV.ptr 0 1),(AV.d (D.v (.int .i64 a0_1))),(AV.ptr 1 6),(AV.d (D.v (.int .i64 a1_6))),(AV.d (D.v (.int .i64 (mm true (IntKind.wrap .i64 (a0_1 - (1 : Int))) a1_6)))),(AV.clo 155 [(AV.ptr 1 0)]),(AV.ptr 0 2),(AV.d (D.v (.int .i64 a0_2))),(AV.ptr 1 7),(AV.d (D.v (.int .i64 a1_7))),Jk,Jk] (some 24) v,L⟩ (fun st => contK Tg Z0.sp ⟨0,[],false,[]⟩ (inlK Tg Z0 m 4) m Zg (endK Tg Tryz.f106 endV) [.code (subc [1,1,1] (bodyOf Tryz.f106))] .normal st))) []))
theorem Zeh (m : Nat) (a0_0 : Int) (a0_1 : Int) (a0_2 : Int) (a1_0 : Bool) (a1_1 : Bool) (a1_2n : Nat) (a1_2c : Option Nat) (a1_2 : List D) (a1_3 : Bool) (a1_4n : Nat) (a1_4c : Option Nat) (a1_4 : List D) (a1_5 : Int) (a1_6 : Int) (a1_7 : Int) (Z3v : Int) (Z4x : Int) (Z44 : Int) (Z5s : Int) (Z5q : Int) (Z81 : Bool) (Z6g : Bool) (Z8e : Nat) (Z6y : Option Nat) (Ze7 : List D) (Z5i : Bool) (Z56 : Nat) (Zkv : Option Nat) (Zkc : List D) (Zkw : Int) (Zkx : Int) (Zq6 : Int) (Zhw : Int) (Zln : Int) (Ztu : Int) : Z39 m a0_0 a0_1 a0_2 a1_0 a1_1 a1_2n a1_2c a1_2 a1_3 a1_4n a1_4c a1_4 a1_5 a1_6 a1_7 Z3v Z4x Z44 Z5s Z5q Z81 Z6g Z8e Z6y Ze7 Z5i Z56 Zkv Zkc Zkw Zkx Zq6 Zhw Zln Ztu =
 (cond (Z4x != (-1 : Int))
 (some (D.agg [(D.v (.int .i64 (mm true (IntKind.wrap .i64 (a0_0 - (1 : Int))) a1_5))),(D.v (.int .i64 (mm true (IntKind.wrap .i64 (a0_1 - (1 : Int))) a1_6))),(D.v (.int .i64 (mm true Z3v Z4x)))]))
 (some (D.agg [(D.v (.int .i64 (mm true (IntKind.wrap .i64 (a0_0 - (1 : Int))) a1_5))),(D.v (.int .i64 (mm true (IntKind.wrap .i64 (a0_1 - (1 : Int))) a1_6))),(D.v (.int .i64 Z3v))]))) := (Z12 m _).trans (by kernel_rfl)
noncomputable def Z2y (m : Nat) (a0_0 : Int) (a0_1 : Int) (a0_2 : Int) (a1_0 : Bool) (a1_1 : Bool) (a1_2n : Nat) (a1_2c : Option Nat) (a1_2 : List D) (a1_3 : Bool) (a1_4n : Nat) (a1_4c : Option Nat) (a1_4 : List D) (a1_5 : Int) (a1_6 : Int) (a1_7 : Int) (Zfi : Int) (Zjz : Int) (Zkq : Int) (Zlm : Int) (Zne : Int) (Zk0 : Bool) (Zm8 : Bool) (Znf : Nat) (Zmd : Option Nat) (Zpk : List D) (Zbr : Bool) (Zh1 : Nat) (Zos : Option Nat) (Zot : List D) (Zou : Int) (Zov : Int) (Zow : Int) (Zq7 : Int) (Zyk : Int) (Z19t : Int) : Option D :=
 cutK m (codeK Tg Z0.sp ⟨3,[],true,[]⟩ (inlK Tg Z0 m 3) m Z4 (subc [1,1] (bodyOf Tryz.f155)) ⟨[(AV.d (D.v (.int .i64 Zfi))),(AV.d (D.v (.int .i64 Zjz))),Jk,Jk,Jk,Jk,Jk,Jk,Jk,Jk,Jk,Jk,Jk,Jk,Jk,Jk,Jk,Jk,Jk,Jk,Jk],[(Blk.d 3 [(D.v (.int .i64 Zkq)),(D.v (.int .i64 Zlm)),(D.v (.int .i64 Zne))]),(Blk.d 8 [(D.v (.bool Zk0)),(D.v (.bool Zm8)),(D.list Znf Zmd Zpk),(D.v (.bool Zbr)),(D.list Zh1 Zos Zot),(D.v (.int .i64 Zou)),(D.v (.int .i64 Zov)),(D.v (.int .i64 Zow))]),(Blk.d 3 [(D.v (.int .i64 Zq7)),(D.v (.int .i64 Zyk)),(D.v (.int .i64 Z19t))])]⟩
  (contK Tg Z0.sp ⟨3,[],true,[]⟩ (inlK Tg Z0 m 3) m Z4 (endK Tg Tryz.f155 (fun v L => opsK Tg Z0.sp ⟨0,[],false,[]⟩ [true,true] (inlK Tg Z0 m 4) (regOps (subc [1,1,0] (bodyOf Tryz.f106))) (List.drop 18 (Array.toList (regOps (subc [1,1,0] (bodyOf Tryz.f106))))) ⟨setSl [(AV.d (D.agg [(D.v (.int .i64 a0_0)),(D.v (.int .i64 a0_1)),(D.v (.int .i64 a0_2))])),(AV.d (D.agg [(D.v (.bool a1_0)),(D.v (.bool a1_1)),(D.list a1_2n a1_2c a1_2),(D.v (.bool a1_3)),(D.list a1_4n a1_4c a1_4),(D.v (.int .i64 a1_5)),(D.v (.int .i64 a1_6)),(D.v (.int .i64 a1_7))])),(AV.ptr 0 0),(AV.ptr 1 0),(AV.ptr 2 0),(AV.clo 155 [(AV.ptr 1 0)]),(AV.clo 155 [(AV.ptr 1 0)]),(AV.clo 155 [(AV.ptr 1 0)]),(AV.ptr 0 0),(AV.d (D.v (.int .i64 a0_0))),(AV.ptr 1 5),(AV.d (D.v (.int .i64 a1_5))),(AV.d (D.v (.int .i64 (mm true (IntKind.wrap .i64 (a0_0 - (1 : Int))) a1_5)))),(AV.clo 155 [(AV.ptr 1 0)]),(AV.ptr 0 1),(AV.d (D.v (.int .i64 a0_1))),(AV.ptr 1 6),(AV.d (D.v (.int .i64 a1_6))),(AV.d (D.v (.int .i64 (IntKind.wrap .i64 (a0_1 - (1 : Int)))))),(AV.clo 155 [(AV.ptr 1 0)]),(AV.ptr 0 2),(AV.d (D.v (.int .i64 a0_2))),(AV.ptr 1 7),(AV.d (D.v (.int .i64 a1_7))),Jk,Jk] (some 24) v,L⟩ (fun st => contK Tg Z0.sp ⟨0,[],false,[]⟩ (inlK Tg Z0 m 4) m Zg (endK Tg Tryz.f106 endV) [.code (subc [1,1,1] (bodyOf Tryz.f106))] .normal st))) []))
theorem Zdd (m : Nat) (a0_0 : Int) (a0_1 : Int) (a0_2 : Int) (a1_0 : Bool) (a1_1 : Bool) (a1_2n : Nat) (a1_2c : Option Nat) (a1_2 : List D) (a1_3 : Bool) (a1_4n : Nat) (a1_4c : Option Nat) (a1_4 : List D) (a1_5 : Int) (a1_6 : Int) (a1_7 : Int) (Zfi : Int) (Zjz : Int) (Zkq : Int) (Zlm : Int) (Zne : Int) (Zk0 : Bool) (Zm8 : Bool) (Znf : Nat) (Zmd : Option Nat) (Zpk : List D) (Zbr : Bool) (Zh1 : Nat) (Zos : Option Nat) (Zot : List D) (Zou : Int) (Zov : Int) (Zow : Int) (Zq7 : Int) (Zyk : Int) (Z19t : Int) : Z2y m a0_0 a0_1 a0_2 a1_0 a1_1 a1_2n a1_2c a1_2 a1_3 a1_4n a1_4c a1_4 a1_5 a1_6 a1_7 Zfi Zjz Zkq Zlm Zne Zk0 Zm8 Znf Zmd Zpk Zbr Zh1 Zos Zot Zou Zov Zow Zq7 Zyk Z19t =
 (cond (Zjz != (-1 : Int))
 (some (D.agg [(D.v (.int .i64 (mm true (IntKind.wrap .i64 (a0_0 - (1 : Int))) a1_5))),(D.v (.int .i64 (IntKind.wrap .i64 (a0_1 - (1 : Int))))),(D.v (.int .i64 (mm true Zfi Zjz)))]))
 (some (D.agg [(D.v (.int .i64 (mm true (IntKind.wrap .i64 (a0_0 - (1 : Int))) a1_5))),(D.v (.int .i64 (IntKind.wrap .i64 (a0_1 - (1 : Int))))),(D.v (.int .i64 Zfi))]))) := (Z12 m _).trans (by kernel_rfl)
noncomputable def Z19 (m : Nat) (a0_0 : Int) (a0_1 : Int) (a0_2 : Int) (a1_0 : Bool) (a1_1 : Bool) (a1_2n : Nat) (a1_2c : Option Nat) (a1_2 : List D) (a1_3 : Bool) (a1_4n : Nat) (a1_4c : Option Nat) (a1_4 : List D) (a1_5 : Int) (a1_6 : Int) (a1_7 : Int) (Zo3 : Int) (Zme : Int) (Zoa : Int) (Zox : Int) (Zsv : Int) (Znh : Bool) (Zsw : Bool) (Zsx : Nat) (Zsy : Option Nat) (Zvd : List D) (Zg4 : Bool) (Zoy : Nat) (Zlo : Option Nat) (Zoz : List D) (Zp0 : Int) (Zp1 : Int) (Zp2 : Int) (Zp3 : Int) (Z19u : Int) (Z19v : Int) : Option D :=
 cutK m (codeK Tg Z0.sp ⟨3,[],true,[]⟩ (inlK Tg Z0 m 3) m Z4 (subc [1,1] (bodyOf Tryz.f155)) ⟨[(AV.d (D.v (.int .i64 Zo3))),(AV.d (D.v (.int .i64 Zme))),Jk,Jk,Jk,Jk,Jk,Jk,Jk,Jk,Jk,Jk,Jk,Jk,Jk,Jk,Jk,Jk,Jk,Jk,Jk],[(Blk.d 3 [(D.v (.int .i64 Zoa)),(D.v (.int .i64 Zox)),(D.v (.int .i64 Zsv))]),(Blk.d 8 [(D.v (.bool Znh)),(D.v (.bool Zsw)),(D.list Zsx Zsy Zvd),(D.v (.bool Zg4)),(D.list Zoy Zlo Zoz),(D.v (.int .i64 Zp0)),(D.v (.int .i64 Zp1)),(D.v (.int .i64 Zp2))]),(Blk.d 3 [(D.v (.int .i64 Zp3)),(D.v (.int .i64 Z19u)),(D.v (.int .i64 Z19v))])]⟩
  (contK Tg Z0.sp ⟨3,[],true,[]⟩ (inlK Tg Z0 m 3) m Z4 (endK Tg Tryz.f155 (fun v L => opsK Tg Z0.sp ⟨0,[],false,[]⟩ [true,true] (inlK Tg Z0 m 4) (regOps (subc [1,1,0] (bodyOf Tryz.f106))) (List.drop 18 (Array.toList (regOps (subc [1,1,0] (bodyOf Tryz.f106))))) ⟨setSl [(AV.d (D.agg [(D.v (.int .i64 a0_0)),(D.v (.int .i64 a0_1)),(D.v (.int .i64 a0_2))])),(AV.d (D.agg [(D.v (.bool a1_0)),(D.v (.bool a1_1)),(D.list a1_2n a1_2c a1_2),(D.v (.bool a1_3)),(D.list a1_4n a1_4c a1_4),(D.v (.int .i64 a1_5)),(D.v (.int .i64 a1_6)),(D.v (.int .i64 a1_7))])),(AV.ptr 0 0),(AV.ptr 1 0),(AV.ptr 2 0),(AV.clo 155 [(AV.ptr 1 0)]),(AV.clo 155 [(AV.ptr 1 0)]),(AV.clo 155 [(AV.ptr 1 0)]),(AV.ptr 0 0),(AV.d (D.v (.int .i64 a0_0))),(AV.ptr 1 5),(AV.d (D.v (.int .i64 a1_5))),(AV.d (D.v (.int .i64 (mm true (IntKind.wrap .i64 (a0_0 - (1 : Int))) a1_5)))),(AV.clo 155 [(AV.ptr 1 0)]),(AV.ptr 0 1),(AV.d (D.v (.int .i64 a0_1))),(AV.ptr 1 6),(AV.d (D.v (.int .i64 a1_6))),(AV.d (D.v (.int .i64 (mm true a0_1 a1_6)))),(AV.clo 155 [(AV.ptr 1 0)]),(AV.ptr 0 2),(AV.d (D.v (.int .i64 a0_2))),(AV.ptr 1 7),(AV.d (D.v (.int .i64 a1_7))),Jk,Jk] (some 24) v,L⟩ (fun st => contK Tg Z0.sp ⟨0,[],false,[]⟩ (inlK Tg Z0 m 4) m Zg (endK Tg Tryz.f106 endV) [.code (subc [1,1,1] (bodyOf Tryz.f106))] .normal st))) []))
theorem Zde (m : Nat) (a0_0 : Int) (a0_1 : Int) (a0_2 : Int) (a1_0 : Bool) (a1_1 : Bool) (a1_2n : Nat) (a1_2c : Option Nat) (a1_2 : List D) (a1_3 : Bool) (a1_4n : Nat) (a1_4c : Option Nat) (a1_4 : List D) (a1_5 : Int) (a1_6 : Int) (a1_7 : Int) (Zo3 : Int) (Zme : Int) (Zoa : Int) (Zox : Int) (Zsv : Int) (Znh : Bool) (Zsw : Bool) (Zsx : Nat) (Zsy : Option Nat) (Zvd : List D) (Zg4 : Bool) (Zoy : Nat) (Zlo : Option Nat) (Zoz : List D) (Zp0 : Int) (Zp1 : Int) (Zp2 : Int) (Zp3 : Int) (Z19u : Int) (Z19v : Int) : Z19 m a0_0 a0_1 a0_2 a1_0 a1_1 a1_2n a1_2c a1_2 a1_3 a1_4n a1_4c a1_4 a1_5 a1_6 a1_7 Zo3 Zme Zoa Zox Zsv Znh Zsw Zsx Zsy Zvd Zg4 Zoy Zlo Zoz Zp0 Zp1 Zp2 Zp3 Z19u Z19v =
 (cond (Zme != (-1 : Int))
 (some (D.agg [(D.v (.int .i64 (mm true (IntKind.wrap .i64 (a0_0 - (1 : Int))) a1_5))),(D.v (.int .i64 (mm true a0_1 a1_6))),(D.v (.int .i64 (mm true Zo3 Zme)))]))
 (some (D.agg [(D.v (.int .i64 (mm true (IntKind.wrap .i64 (a0_0 - (1 : Int))) a1_5))),(D.v (.int .i64 (mm true a0_1 a1_6))),(D.v (.int .i64 Zo3))]))) := (Z12 m _).trans (by kernel_rfl)
noncomputable def Z1a (m : Nat) (a0_0 : Int) (a0_1 : Int) (a0_2 : Int) (a1_0 : Bool) (a1_1 : Bool) (a1_2n : Nat) (a1_2c : Option Nat) (a1_2 : List D) (a1_3 : Bool) (a1_4n : Nat) (a1_4c : Option Nat) (a1_4 : List D) (a1_5 : Int) (a1_6 : Int) (a1_7 : Int) (Ztv : Int) (Zve : Int) (Zxo : Int) (Zxp : Int) (Zvf : Int) (Zvg : Bool) (Zvh : Bool) (Zvi : Nat) (Zvj : Option Nat) (Zxq : List D) (Zhx : Bool) (Zhy : Nat) (Zhz : Option Nat) (Zlp : List D) (Zp4 : Int) (Zp5 : Int) (Zp6 : Int) (Zp7 : Int) (Z19w : Int) (Z19x : Int) : Option D :=
 cutK m (codeK Tg Z0.sp ⟨3,[],true,[]⟩ (inlK Tg Z0 m 3) m Z4 (subc [1,1] (bodyOf Tryz.f155)) ⟨[(AV.d (D.v (.int .i64 Ztv))),(AV.d (D.v (.int .i64 Zve))),Jk,Jk,Jk,Jk,Jk,Jk,Jk,Jk,Jk,Jk,Jk,Jk,Jk,Jk,Jk,Jk,Jk,Jk,Jk],[(Blk.d 3 [(D.v (.int .i64 Zxo)),(D.v (.int .i64 Zxp)),(D.v (.int .i64 Zvf))]),(Blk.d 8 [(D.v (.bool Zvg)),(D.v (.bool Zvh)),(D.list Zvi Zvj Zxq),(D.v (.bool Zhx)),(D.list Zhy Zhz Zlp),(D.v (.int .i64 Zp4)),(D.v (.int .i64 Zp5)),(D.v (.int .i64 Zp6))]),(Blk.d 3 [(D.v (.int .i64 Zp7)),(D.v (.int .i64 Z19w)),(D.v (.int .i64 Z19x))])]⟩
  (contK Tg Z0.sp ⟨3,[],true,[]⟩ (inlK Tg Z0 m 3) m Z4 (endK Tg Tryz.f155 (fun v L => opsK Tg Z0.sp ⟨0,[],false,[]⟩ [true,true] (inlK Tg Z0 m 4) (regOps (subc [1,1,0] (bodyOf Tryz.f106))) (List.drop 18 (Array.toList (regOps (subc [1,1,0] (bodyOf Tryz.f106))))) ⟨setSl [(AV.d (D.agg [(D.v (.int .i64 a0_0)),(D.v (.int .i64 a0_1)),(D.v (.int .i64 a0_2))])),(AV.d (D.agg [(D.v (.bool a1_0)),(D.v (.bool a1_1)),(D.list a1_2n a1_2c a1_2),(D.v (.bool a1_3)),(D.list a1_4n a1_4c a1_4),(D.v (.int .i64 a1_5)),(D.v (.int .i64 a1_6)),(D.v (.int .i64 a1_7))])),(AV.ptr 0 0),(AV.ptr 1 0),(AV.ptr 2 0),(AV.clo 155 [(AV.ptr 1 0)]),(AV.clo 155 [(AV.ptr 1 0)]),(AV.clo 155 [(AV.ptr 1 0)]),(AV.ptr 0 0),(AV.d (D.v (.int .i64 a0_0))),(AV.ptr 1 5),(AV.d (D.v (.int .i64 a1_5))),(AV.d (D.v (.int .i64 (mm true (IntKind.wrap .i64 (a0_0 - (1 : Int))) a1_5)))),(AV.clo 155 [(AV.ptr 1 0)]),(AV.ptr 0 1),(AV.d (D.v (.int .i64 a0_1))),(AV.ptr 1 6),(AV.d (D.v (.int .i64 a1_6))),(AV.d (D.v (.int .i64 a0_1))),(AV.clo 155 [(AV.ptr 1 0)]),(AV.ptr 0 2),(AV.d (D.v (.int .i64 a0_2))),(AV.ptr 1 7),(AV.d (D.v (.int .i64 a1_7))),Jk,Jk] (some 24) v,L⟩ (fun st => contK Tg Z0.sp ⟨0,[],false,[]⟩ (inlK Tg Z0 m 4) m Zg (endK Tg Tryz.f106 endV) [.code (subc [1,1,1] (bodyOf Tryz.f106))] .normal st))) []))
theorem Zdf (m : Nat) (a0_0 : Int) (a0_1 : Int) (a0_2 : Int) (a1_0 : Bool) (a1_1 : Bool) (a1_2n : Nat) (a1_2c : Option Nat) (a1_2 : List D) (a1_3 : Bool) (a1_4n : Nat) (a1_4c : Option Nat) (a1_4 : List D) (a1_5 : Int) (a1_6 : Int) (a1_7 : Int) (Ztv : Int) (Zve : Int) (Zxo : Int) (Zxp : Int) (Zvf : Int) (Zvg : Bool) (Zvh : Bool) (Zvi : Nat) (Zvj : Option Nat) (Zxq : List D) (Zhx : Bool) (Zhy : Nat) (Zhz : Option Nat) (Zlp : List D) (Zp4 : Int) (Zp5 : Int) (Zp6 : Int) (Zp7 : Int) (Z19w : Int) (Z19x : Int) : Z1a m a0_0 a0_1 a0_2 a1_0 a1_1 a1_2n a1_2c a1_2 a1_3 a1_4n a1_4c a1_4 a1_5 a1_6 a1_7 Ztv Zve Zxo Zxp Zvf Zvg Zvh Zvi Zvj Zxq Zhx Zhy Zhz Zlp Zp4 Zp5 Zp6 Zp7 Z19w Z19x =
 (cond (Zve != (-1 : Int))
 (some (D.agg [(D.v (.int .i64 (mm true (IntKind.wrap .i64 (a0_0 - (1 : Int))) a1_5))),(D.v (.int .i64 a0_1)),(D.v (.int .i64 (mm true Ztv Zve)))]))
 (some (D.agg [(D.v (.int .i64 (mm true (IntKind.wrap .i64 (a0_0 - (1 : Int))) a1_5))),(D.v (.int .i64 a0_1)),(D.v (.int .i64 Ztv))]))) := (Z12 m _).trans (by kernel_rfl)
noncomputable def Z2z (m : Nat) (a0_0 : Int) (a0_1 : Int) (a0_2 : Int) (a1_0 : Bool) (a1_1 : Bool) (a1_2n : Nat) (a1_2c : Option Nat) (a1_2 : List D) (a1_3 : Bool) (a1_4n : Nat) (a1_4c : Option Nat) (a1_4 : List D) (a1_5 : Int) (a1_6 : Int) (a1_7 : Int) (Zrb : Int) (Z13q : Int) (Z154 : Int) (Z18s : Int) (Z17t : Int) (Z14x : Bool) (Z17u : Bool) (Z14y : Nat) (Z17v : Option Nat) (Z18t : List D) (Zp8 : Bool) (Zp9 : Nat) (Zpa : Option Nat) (Zyl : List D) (Ztw : Int) (Zym : Int) (Zyn : Int) (Zyo : Int) (Z17w : Int) (Z17x : Int) : Option D :=
 cutK m (codeK Tg Z0.sp ⟨3,[],true,[]⟩ (inlK Tg Z0 m 3) m Z4 (subc [1,1] (bodyOf Tryz.f155)) ⟨[(AV.d (D.v (.int .i64 Zrb))),(AV.d (D.v (.int .i64 Z13q))),Jk,Jk,Jk,Jk,Jk,Jk,Jk,Jk,Jk,Jk,Jk,Jk,Jk,Jk,Jk,Jk,Jk,Jk,Jk],[(Blk.d 3 [(D.v (.int .i64 Z154)),(D.v (.int .i64 Z18s)),(D.v (.int .i64 Z17t))]),(Blk.d 8 [(D.v (.bool Z14x)),(D.v (.bool Z17u)),(D.list Z14y Z17v Z18t),(D.v (.bool Zp8)),(D.list Zp9 Zpa Zyl),(D.v (.int .i64 Ztw)),(D.v (.int .i64 Zym)),(D.v (.int .i64 Zyn))]),(Blk.d 3 [(D.v (.int .i64 Zyo)),(D.v (.int .i64 Z17w)),(D.v (.int .i64 Z17x))])]⟩
  (contK Tg Z0.sp ⟨3,[],true,[]⟩ (inlK Tg Z0 m 3) m Z4 (endK Tg Tryz.f155 (fun v L => opsK Tg Z0.sp ⟨0,[],false,[]⟩ [true,true] (inlK Tg Z0 m 4) (regOps (subc [1,1,0] (bodyOf Tryz.f106))) (List.drop 18 (Array.toList (regOps (subc [1,1,0] (bodyOf Tryz.f106))))) ⟨setSl [(AV.d (D.agg [(D.v (.int .i64 a0_0)),(D.v (.int .i64 a0_1)),(D.v (.int .i64 a0_2))])),(AV.d (D.agg [(D.v (.bool a1_0)),(D.v (.bool a1_1)),(D.list a1_2n a1_2c a1_2),(D.v (.bool a1_3)),(D.list a1_4n a1_4c a1_4),(D.v (.int .i64 a1_5)),(D.v (.int .i64 a1_6)),(D.v (.int .i64 a1_7))])),(AV.ptr 0 0),(AV.ptr 1 0),(AV.ptr 2 0),(AV.clo 155 [(AV.ptr 1 0)]),(AV.clo 155 [(AV.ptr 1 0)]),(AV.clo 155 [(AV.ptr 1 0)]),(AV.ptr 0 0),(AV.d (D.v (.int .i64 a0_0))),(AV.ptr 1 5),(AV.d (D.v (.int .i64 a1_5))),(AV.d (D.v (.int .i64 (IntKind.wrap .i64 (a0_0 - (1 : Int)))))),(AV.clo 155 [(AV.ptr 1 0)]),(AV.ptr 0 1),(AV.d (D.v (.int .i64 a0_1))),(AV.ptr 1 6),(AV.d (D.v (.int .i64 a1_6))),(AV.d (D.v (.int .i64 (mm true (IntKind.wrap .i64 (a0_1 - (1 : Int))) a1_6)))),(AV.clo 155 [(AV.ptr 1 0)]),(AV.ptr 0 2),(AV.d (D.v (.int .i64 a0_2))),(AV.ptr 1 7),(AV.d (D.v (.int .i64 a1_7))),Jk,Jk] (some 24) v,L⟩ (fun st => contK Tg Z0.sp ⟨0,[],false,[]⟩ (inlK Tg Z0 m 4) m Zg (endK Tg Tryz.f106 endV) [.code (subc [1,1,1] (bodyOf Tryz.f106))] .normal st))) []))
theorem Zdg (m : Nat) (a0_0 : Int) (a0_1 : Int) (a0_2 : Int) (a1_0 : Bool) (a1_1 : Bool) (a1_2n : Nat) (a1_2c : Option Nat) (a1_2 : List D) (a1_3 : Bool) (a1_4n : Nat) (a1_4c : Option Nat) (a1_4 : List D) (a1_5 : Int) (a1_6 : Int) (a1_7 : Int) (Zrb : Int) (Z13q : Int) (Z154 : Int) (Z18s : Int) (Z17t : Int) (Z14x : Bool) (Z17u : Bool) (Z14y : Nat) (Z17v : Option Nat) (Z18t : List D) (Zp8 : Bool) (Zp9 : Nat) (Zpa : Option Nat) (Zyl : List D) (Ztw : Int) (Zym : Int) (Zyn : Int) (Zyo : Int) (Z17w : Int) (Z17x : Int) : Z2z m a0_0 a0_1 a0_2 a1_0 a1_1 a1_2n a1_2c a1_2 a1_3 a1_4n a1_4c a1_4 a1_5 a1_6 a1_7 Zrb Z13q Z154 Z18s Z17t Z14x Z17u Z14y Z17v Z18t Zp8 Zp9 Zpa Zyl Ztw Zym Zyn Zyo Z17w Z17x =
 (cond (Z13q != (-1 : Int))
 (some (D.agg [(D.v (.int .i64 (IntKind.wrap .i64 (a0_0 - (1 : Int))))),(D.v (.int .i64 (mm true (IntKind.wrap .i64 (a0_1 - (1 : Int))) a1_6))),(D.v (.int .i64 (mm true Zrb Z13q)))]))
 (some (D.agg [(D.v (.int .i64 (IntKind.wrap .i64 (a0_0 - (1 : Int))))),(D.v (.int .i64 (mm true (IntKind.wrap .i64 (a0_1 - (1 : Int))) a1_6))),(D.v (.int .i64 Zrb))]))) := (Z12 m _).trans (by kernel_rfl)
noncomputable def Z30 (m : Nat) (a0_0 : Int) (a0_1 : Int) (a0_2 : Int) (a1_0 : Bool) (a1_1 : Bool) (a1_2n : Nat) (a1_2c : Option Nat) (a1_2 : List D) (a1_3 : Bool) (a1_4n : Nat) (a1_4c : Option Nat) (a1_4 : List D) (a1_5 : Int) (a1_6 : Int) (a1_7 : Int) (Z1d7 : Int) (Z1f3 : Int) (Z1ic : Int) (Z1id : Int) (Z1ie : Int) (Z1hq : Bool) (Z1if : Bool) (Z1hr : Nat) (Z1ig : Option Nat) (Z1ih : List D) (Z17y : Bool) (Z17z : Nat) (Z180 : Option Nat) (Z181 : List D) (Z182 : Int) (Z183 : Int) (Z184 : Int) (Z185 : Int) (Z186 : Int) (Z187 : Int) : Option D :=
 cutK m (codeK Tg Z0.sp ⟨3,[],true,[]⟩ (inlK Tg Z0 m 3) m Z4 (subc [1,1] (bodyOf Tryz.f155)) ⟨[(AV.d (D.v (.int .i64 Z1d7))),(AV.d (D.v (.int .i64 Z1f3))),Jk,Jk,Jk,Jk,Jk,Jk,Jk,Jk,Jk,Jk,Jk,Jk,Jk,Jk,Jk,Jk,Jk,Jk,Jk],[(Blk.d 3 [(D.v (.int .i64 Z1ic)),(D.v (.int .i64 Z1id)),(D.v (.int .i64 Z1ie))]),(Blk.d 8 [(D.v (.bool Z1hq)),(D.v (.bool Z1if)),(D.list Z1hr Z1ig Z1ih),(D.v (.bool Z17y)),(D.list Z17z Z180 Z181),(D.v (.int .i64 Z182)),(D.v (.int .i64 Z183)),(D.v (.int .i64 Z184))]),(Blk.d 3 [(D.v (.int .i64 Z185)),(D.v (.int .i64 Z186)),(D.v (.int .i64 Z187))])]⟩
  (contK Tg Z0.sp ⟨3,[],true,[]⟩ (inlK Tg Z0 m 3) m Z4 (endK Tg Tryz.f155 (fun v L => opsK Tg Z0.sp ⟨0,[],false,[]⟩ [true,true] (inlK Tg Z0 m 4) (regOps (subc [1,1,0] (bodyOf Tryz.f106))) (List.drop 18 (Array.toList (regOps (subc [1,1,0] (bodyOf Tryz.f106))))) ⟨setSl [(AV.d (D.agg [(D.v (.int .i64 a0_0)),(D.v (.int .i64 a0_1)),(D.v (.int .i64 a0_2))])),(AV.d (D.agg [(D.v (.bool a1_0)),(D.v (.bool a1_1)),(D.list a1_2n a1_2c a1_2),(D.v (.bool a1_3)),(D.list a1_4n a1_4c a1_4),(D.v (.int .i64 a1_5)),(D.v (.int .i64 a1_6)),(D.v (.int .i64 a1_7))])),(AV.ptr 0 0),(AV.ptr 1 0),(AV.ptr 2 0),(AV.clo 155 [(AV.ptr 1 0)]),(AV.clo 155 [(AV.ptr 1 0)]),(AV.clo 155 [(AV.ptr 1 0)]),(AV.ptr 0 0),(AV.d (D.v (.int .i64 a0_0))),(AV.ptr 1 5),(AV.d (D.v (.int .i64 a1_5))),(AV.d (D.v (.int .i64 (IntKind.wrap .i64 (a0_0 - (1 : Int)))))),(AV.clo 155 [(AV.ptr 1 0)]),(AV.ptr 0 1),(AV.d (D.v (.int .i64 a0_1))),(AV.ptr 1 6),(AV.d (D.v (.int .i64 a1_6))),(AV.d (D.v (.int .i64 (IntKind.wrap .i64 (a0_1 - (1 : Int)))))),(AV.clo 155 [(AV.ptr 1 0)]),(AV.ptr 0 2),(AV.d (D.v (.int .i64 a0_2))),(AV.ptr 1 7),(AV.d (D.v (.int .i64 a1_7))),Jk,Jk] (some 24) v,L⟩ (fun st => contK Tg Z0.sp ⟨0,[],false,[]⟩ (inlK Tg Z0 m 4) m Zg (endK Tg Tryz.f106 endV) [.code (subc [1,1,1] (bodyOf Tryz.f106))] .normal st))) []))
theorem Zdh (m : Nat) (a0_0 : Int) (a0_1 : Int) (a0_2 : Int) (a1_0 : Bool) (a1_1 : Bool) (a1_2n : Nat) (a1_2c : Option Nat) (a1_2 : List D) (a1_3 : Bool) (a1_4n : Nat) (a1_4c : Option Nat) (a1_4 : List D) (a1_5 : Int) (a1_6 : Int) (a1_7 : Int) (Z1d7 : Int) (Z1f3 : Int) (Z1ic : Int) (Z1id : Int) (Z1ie : Int) (Z1hq : Bool) (Z1if : Bool) (Z1hr : Nat) (Z1ig : Option Nat) (Z1ih : List D) (Z17y : Bool) (Z17z : Nat) (Z180 : Option Nat) (Z181 : List D) (Z182 : Int) (Z183 : Int) (Z184 : Int) (Z185 : Int) (Z186 : Int) (Z187 : Int) : Z30 m a0_0 a0_1 a0_2 a1_0 a1_1 a1_2n a1_2c a1_2 a1_3 a1_4n a1_4c a1_4 a1_5 a1_6 a1_7 Z1d7 Z1f3 Z1ic Z1id Z1ie Z1hq Z1if Z1hr Z1ig Z1ih Z17y Z17z Z180 Z181 Z182 Z183 Z184 Z185 Z186 Z187 =
 (cond (Z1f3 != (-1 : Int))
 (some (D.agg [(D.v (.int .i64 (IntKind.wrap .i64 (a0_0 - (1 : Int))))),(D.v (.int .i64 (IntKind.wrap .i64 (a0_1 - (1 : Int))))),(D.v (.int .i64 (mm true Z1d7 Z1f3)))]))
 (some (D.agg [(D.v (.int .i64 (IntKind.wrap .i64 (a0_0 - (1 : Int))))),(D.v (.int .i64 (IntKind.wrap .i64 (a0_1 - (1 : Int))))),(D.v (.int .i64 Z1d7))]))) := (Z12 m _).trans (by kernel_rfl)
noncomputable def Z1b (m : Nat) (a0_0 : Int) (a0_1 : Int) (a0_2 : Int) (a1_0 : Bool) (a1_1 : Bool) (a1_2n : Nat) (a1_2c : Option Nat) (a1_2 : List D) (a1_3 : Bool) (a1_4n : Nat) (a1_4c : Option Nat) (a1_4 : List D) (a1_5 : Int) (a1_6 : Int) (a1_7 : Int) (Z1hs : Int) (Z1ht : Int) (Z1kc : Int) (Z1kd : Int) (Z1ke : Int) (Z1kf : Bool) (Z1kg : Bool) (Z1kh : Nat) (Z1ki : Option Nat) (Z1kj : List D) (Z19y : Bool) (Z19z : Nat) (Z1a0 : Option Nat) (Z1a1 : List D) (Z1a2 : Int) (Z1a3 : Int) (Z1a4 : Int) (Z1a5 : Int) (Z1a6 : Int) (Z1a7 : Int) : Option D :=
 cutK m (codeK Tg Z0.sp ⟨3,[],true,[]⟩ (inlK Tg Z0 m 3) m Z4 (subc [1,1] (bodyOf Tryz.f155)) ⟨[(AV.d (D.v (.int .i64 Z1hs))),(AV.d (D.v (.int .i64 Z1ht))),Jk,Jk,Jk,Jk,Jk,Jk,Jk,Jk,Jk,Jk,Jk,Jk,Jk,Jk,Jk,Jk,Jk,Jk,Jk],[(Blk.d 3 [(D.v (.int .i64 Z1kc)),(D.v (.int .i64 Z1kd)),(D.v (.int .i64 Z1ke))]),(Blk.d 8 [(D.v (.bool Z1kf)),(D.v (.bool Z1kg)),(D.list Z1kh Z1ki Z1kj),(D.v (.bool Z19y)),(D.list Z19z Z1a0 Z1a1),(D.v (.int .i64 Z1a2)),(D.v (.int .i64 Z1a3)),(D.v (.int .i64 Z1a4))]),(Blk.d 3 [(D.v (.int .i64 Z1a5)),(D.v (.int .i64 Z1a6)),(D.v (.int .i64 Z1a7))])]⟩
  (contK Tg Z0.sp ⟨3,[],true,[]⟩ (inlK Tg Z0 m 3) m Z4 (endK Tg Tryz.f155 (fun v L => opsK Tg Z0.sp ⟨0,[],false,[]⟩ [true,true] (inlK Tg Z0 m 4) (regOps (subc [1,1,0] (bodyOf Tryz.f106))) (List.drop 18 (Array.toList (regOps (subc [1,1,0] (bodyOf Tryz.f106))))) ⟨setSl [(AV.d (D.agg [(D.v (.int .i64 a0_0)),(D.v (.int .i64 a0_1)),(D.v (.int .i64 a0_2))])),(AV.d (D.agg [(D.v (.bool a1_0)),(D.v (.bool a1_1)),(D.list a1_2n a1_2c a1_2),(D.v (.bool a1_3)),(D.list a1_4n a1_4c a1_4),(D.v (.int .i64 a1_5)),(D.v (.int .i64 a1_6)),(D.v (.int .i64 a1_7))])),(AV.ptr 0 0),(AV.ptr 1 0),(AV.ptr 2 0),(AV.clo 155 [(AV.ptr 1 0)]),(AV.clo 155 [(AV.ptr 1 0)]),(AV.clo 155 [(AV.ptr 1 0)]),(AV.ptr 0 0),(AV.d (D.v (.int .i64 a0_0))),(AV.ptr 1 5),(AV.d (D.v (.int .i64 a1_5))),(AV.d (D.v (.int .i64 (IntKind.wrap .i64 (a0_0 - (1 : Int)))))),(AV.clo 155 [(AV.ptr 1 0)]),(AV.ptr 0 1),(AV.d (D.v (.int .i64 a0_1))),(AV.ptr 1 6),(AV.d (D.v (.int .i64 a1_6))),(AV.d (D.v (.int .i64 (mm true a0_1 a1_6)))),(AV.clo 155 [(AV.ptr 1 0)]),(AV.ptr 0 2),(AV.d (D.v (.int .i64 a0_2))),(AV.ptr 1 7),(AV.d (D.v (.int .i64 a1_7))),Jk,Jk] (some 24) v,L⟩ (fun st => contK Tg Z0.sp ⟨0,[],false,[]⟩ (inlK Tg Z0 m 4) m Zg (endK Tg Tryz.f106 endV) [.code (subc [1,1,1] (bodyOf Tryz.f106))] .normal st))) []))
theorem Zdi (m : Nat) (a0_0 : Int) (a0_1 : Int) (a0_2 : Int) (a1_0 : Bool) (a1_1 : Bool) (a1_2n : Nat) (a1_2c : Option Nat) (a1_2 : List D) (a1_3 : Bool) (a1_4n : Nat) (a1_4c : Option Nat) (a1_4 : List D) (a1_5 : Int) (a1_6 : Int) (a1_7 : Int) (Z1hs : Int) (Z1ht : Int) (Z1kc : Int) (Z1kd : Int) (Z1ke : Int) (Z1kf : Bool) (Z1kg : Bool) (Z1kh : Nat) (Z1ki : Option Nat) (Z1kj : List D) (Z19y : Bool) (Z19z : Nat) (Z1a0 : Option Nat) (Z1a1 : List D) (Z1a2 : Int) (Z1a3 : Int) (Z1a4 : Int) (Z1a5 : Int) (Z1a6 : Int) (Z1a7 : Int) : Z1b m a0_0 a0_1 a0_2 a1_0 a1_1 a1_2n a1_2c a1_2 a1_3 a1_4n a1_4c a1_4 a1_5 a1_6 a1_7 Z1hs Z1ht Z1kc Z1kd Z1ke Z1kf Z1kg Z1kh Z1ki Z1kj Z19y Z19z Z1a0 Z1a1 Z1a2 Z1a3 Z1a4 Z1a5 Z1a6 Z1a7 =
 (cond (Z1ht != (-1 : Int))
 (some (D.agg [(D.v (.int .i64 (IntKind.wrap .i64 (a0_0 - (1 : Int))))),(D.v (.int .i64 (mm true a0_1 a1_6))),(D.v (.int .i64 (mm true Z1hs Z1ht)))]))
 (some (D.agg [(D.v (.int .i64 (IntKind.wrap .i64 (a0_0 - (1 : Int))))),(D.v (.int .i64 (mm true a0_1 a1_6))),(D.v (.int .i64 Z1hs))]))) := (Z12 m _).trans (by kernel_rfl)
noncomputable def Z1c (m : Nat) (a0_0 : Int) (a0_1 : Int) (a0_2 : Int) (a1_0 : Bool) (a1_1 : Bool) (a1_2n : Nat) (a1_2c : Option Nat) (a1_2 : List D) (a1_3 : Bool) (a1_4n : Nat) (a1_4c : Option Nat) (a1_4 : List D) (a1_5 : Int) (a1_6 : Int) (a1_7 : Int) (Z1hu : Int) (Z1hv : Int) (Z1kk : Int) (Z1kl : Int) (Z1km : Int) (Z1kn : Bool) (Z1ko : Bool) (Z1kp : Nat) (Z1kq : Option Nat) (Z1kr : List D) (Z1a8 : Bool) (Z1a9 : Nat) (Z1aa : Option Nat) (Z1ab : List D) (Z1ac : Int) (Z1ad : Int) (Z1ae : Int) (Z1af : Int) (Z1ag : Int) (Z1ah : Int) : Option D :=
 cutK m (codeK Tg Z0.sp ⟨3,[],true,[]⟩ (inlK Tg Z0 m 3) m Z4 (subc [1,1] (bodyOf Tryz.f155)) ⟨[(AV.d (D.v (.int .i64 Z1hu))),(AV.d (D.v (.int .i64 Z1hv))),Jk,Jk,Jk,Jk,Jk,Jk,Jk,Jk,Jk,Jk,Jk,Jk,Jk,Jk,Jk,Jk,Jk,Jk,Jk],[(Blk.d 3 [(D.v (.int .i64 Z1kk)),(D.v (.int .i64 Z1kl)),(D.v (.int .i64 Z1km))]),(Blk.d 8 [(D.v (.bool Z1kn)),(D.v (.bool Z1ko)),(D.list Z1kp Z1kq Z1kr),(D.v (.bool Z1a8)),(D.list Z1a9 Z1aa Z1ab),(D.v (.int .i64 Z1ac)),(D.v (.int .i64 Z1ad)),(D.v (.int .i64 Z1ae))]),(Blk.d 3 [(D.v (.int .i64 Z1af)),(D.v (.int .i64 Z1ag)),(D.v (.int .i64 Z1ah))])]⟩
  (contK Tg Z0.sp ⟨3,[],true,[]⟩ (inlK Tg Z0 m 3) m Z4 (endK Tg Tryz.f155 (fun v L => opsK Tg Z0.sp ⟨0,[],false,[]⟩ [true,true] (inlK Tg Z0 m 4) (regOps (subc [1,1,0] (bodyOf Tryz.f106))) (List.drop 18 (Array.toList (regOps (subc [1,1,0] (bodyOf Tryz.f106))))) ⟨setSl [(AV.d (D.agg [(D.v (.int .i64 a0_0)),(D.v (.int .i64 a0_1)),(D.v (.int .i64 a0_2))])),(AV.d (D.agg [(D.v (.bool a1_0)),(D.v (.bool a1_1)),(D.list a1_2n a1_2c a1_2),(D.v (.bool a1_3)),(D.list a1_4n a1_4c a1_4),(D.v (.int .i64 a1_5)),(D.v (.int .i64 a1_6)),(D.v (.int .i64 a1_7))])),(AV.ptr 0 0),(AV.ptr 1 0),(AV.ptr 2 0),(AV.clo 155 [(AV.ptr 1 0)]),(AV.clo 155 [(AV.ptr 1 0)]),(AV.clo 155 [(AV.ptr 1 0)]),(AV.ptr 0 0),(AV.d (D.v (.int .i64 a0_0))),(AV.ptr 1 5),(AV.d (D.v (.int .i64 a1_5))),(AV.d (D.v (.int .i64 (IntKind.wrap .i64 (a0_0 - (1 : Int)))))),(AV.clo 155 [(AV.ptr 1 0)]),(AV.ptr 0 1),(AV.d (D.v (.int .i64 a0_1))),(AV.ptr 1 6),(AV.d (D.v (.int .i64 a1_6))),(AV.d (D.v (.int .i64 a0_1))),(AV.clo 155 [(AV.ptr 1 0)]),(AV.ptr 0 2),(AV.d (D.v (.int .i64 a0_2))),(AV.ptr 1 7),(AV.d (D.v (.int .i64 a1_7))),Jk,Jk] (some 24) v,L⟩ (fun st => contK Tg Z0.sp ⟨0,[],false,[]⟩ (inlK Tg Z0 m 4) m Zg (endK Tg Tryz.f106 endV) [.code (subc [1,1,1] (bodyOf Tryz.f106))] .normal st))) []))
theorem Zdj (m : Nat) (a0_0 : Int) (a0_1 : Int) (a0_2 : Int) (a1_0 : Bool) (a1_1 : Bool) (a1_2n : Nat) (a1_2c : Option Nat) (a1_2 : List D) (a1_3 : Bool) (a1_4n : Nat) (a1_4c : Option Nat) (a1_4 : List D) (a1_5 : Int) (a1_6 : Int) (a1_7 : Int) (Z1hu : Int) (Z1hv : Int) (Z1kk : Int) (Z1kl : Int) (Z1km : Int) (Z1kn : Bool) (Z1ko : Bool) (Z1kp : Nat) (Z1kq : Option Nat) (Z1kr : List D) (Z1a8 : Bool) (Z1a9 : Nat) (Z1aa : Option Nat) (Z1ab : List D) (Z1ac : Int) (Z1ad : Int) (Z1ae : Int) (Z1af : Int) (Z1ag : Int) (Z1ah : Int) : Z1c m a0_0 a0_1 a0_2 a1_0 a1_1 a1_2n a1_2c a1_2 a1_3 a1_4n a1_4c a1_4 a1_5 a1_6 a1_7 Z1hu Z1hv Z1kk Z1kl Z1km Z1kn Z1ko Z1kp Z1kq Z1kr Z1a8 Z1a9 Z1aa Z1ab Z1ac Z1ad Z1ae Z1af Z1ag Z1ah =
 (cond (Z1hv != (-1 : Int))
 (some (D.agg [(D.v (.int .i64 (IntKind.wrap .i64 (a0_0 - (1 : Int))))),(D.v (.int .i64 a0_1)),(D.v (.int .i64 (mm true Z1hu Z1hv)))]))
 (some (D.agg [(D.v (.int .i64 (IntKind.wrap .i64 (a0_0 - (1 : Int))))),(D.v (.int .i64 a0_1)),(D.v (.int .i64 Z1hu))]))) := (Z12 m _).trans (by kernel_rfl)
noncomputable def Z1d (m : Nat) (a0_0 : Int) (a0_1 : Int) (a0_2 : Int) (a1_0 : Bool) (a1_1 : Bool) (a1_2n : Nat) (a1_2c : Option Nat) (a1_2 : List D) (a1_3 : Bool) (a1_4n : Nat) (a1_4c : Option Nat) (a1_4 : List D) (a1_5 : Int) (a1_6 : Int) (a1_7 : Int) (Z1hw : Int) (Z1hx : Int) (Z1ks : Int) (Z1kt : Int) (Z1ku : Int) (Z1kv : Bool) (Z1kw : Bool) (Z1kx : Nat) (Z1ky : Option Nat) (Z1kz : List D) (Z1ai : Bool) (Z1aj : Nat) (Z1ak : Option Nat) (Z1al : List D) (Z1am : Int) (Z1an : Int) (Z1ao : Int) (Z1ap : Int) (Z1aq : Int) (Z1ar : Int) : Option D :=
 cutK m (codeK Tg Z0.sp ⟨3,[],true,[]⟩ (inlK Tg Z0 m 3) m Z4 (subc [1,1] (bodyOf Tryz.f155)) ⟨[(AV.d (D.v (.int .i64 Z1hw))),(AV.d (D.v (.int .i64 Z1hx))),Jk,Jk,Jk,Jk,Jk,Jk,Jk,Jk,Jk,Jk,Jk,Jk,Jk,Jk,Jk,Jk,Jk,Jk,Jk],[(Blk.d 3 [(D.v (.int .i64 Z1ks)),(D.v (.int .i64 Z1kt)),(D.v (.int .i64 Z1ku))]),(Blk.d 8 [(D.v (.bool Z1kv)),(D.v (.bool Z1kw)),(D.list Z1kx Z1ky Z1kz),(D.v (.bool Z1ai)),(D.list Z1aj Z1ak Z1al),(D.v (.int .i64 Z1am)),(D.v (.int .i64 Z1an)),(D.v (.int .i64 Z1ao))]),(Blk.d 3 [(D.v (.int .i64 Z1ap)),(D.v (.int .i64 Z1aq)),(D.v (.int .i64 Z1ar))])]⟩
  (contK Tg Z0.sp ⟨3,[],true,[]⟩ (inlK Tg Z0 m 3) m Z4 (endK Tg Tryz.f155 (fun v L => opsK Tg Z0.sp ⟨0,[],false,[]⟩ [true,true] (inlK Tg Z0 m 4) (regOps (subc [1,1,0] (bodyOf Tryz.f106))) (List.drop 18 (Array.toList (regOps (subc [1,1,0] (bodyOf Tryz.f106))))) ⟨setSl [(AV.d (D.agg [(D.v (.int .i64 a0_0)),(D.v (.int .i64 a0_1)),(D.v (.int .i64 a0_2))])),(AV.d (D.agg [(D.v (.bool a1_0)),(D.v (.bool a1_1)),(D.list a1_2n a1_2c a1_2),(D.v (.bool a1_3)),(D.list a1_4n a1_4c a1_4),(D.v (.int .i64 a1_5)),(D.v (.int .i64 a1_6)),(D.v (.int .i64 a1_7))])),(AV.ptr 0 0),(AV.ptr 1 0),(AV.ptr 2 0),(AV.clo 155 [(AV.ptr 1 0)]),(AV.clo 155 [(AV.ptr 1 0)]),(AV.clo 155 [(AV.ptr 1 0)]),(AV.ptr 0 0),(AV.d (D.v (.int .i64 a0_0))),(AV.ptr 1 5),(AV.d (D.v (.int .i64 a1_5))),(AV.d (D.v (.int .i64 (mm true a0_0 a1_5)))),(AV.clo 155 [(AV.ptr 1 0)]),(AV.ptr 0 1),(AV.d (D.v (.int .i64 a0_1))),(AV.ptr 1 6),(AV.d (D.v (.int .i64 a1_6))),(AV.d (D.v (.int .i64 (mm true (IntKind.wrap .i64 (a0_1 - (1 : Int))) a1_6)))),(AV.clo 155 [(AV.ptr 1 0)]),(AV.ptr 0 2),(AV.d (D.v (.int .i64 a0_2))),(AV.ptr 1 7),(AV.d (D.v (.int .i64 a1_7))),Jk,Jk] (some 24) v,L⟩ (fun st => contK Tg Z0.sp ⟨0,[],false,[]⟩ (inlK Tg Z0 m 4) m Zg (endK Tg Tryz.f106 endV) [.code (subc [1,1,1] (bodyOf Tryz.f106))] .normal st))) []))
theorem Zdk (m : Nat) (a0_0 : Int) (a0_1 : Int) (a0_2 : Int) (a1_0 : Bool) (a1_1 : Bool) (a1_2n : Nat) (a1_2c : Option Nat) (a1_2 : List D) (a1_3 : Bool) (a1_4n : Nat) (a1_4c : Option Nat) (a1_4 : List D) (a1_5 : Int) (a1_6 : Int) (a1_7 : Int) (Z1hw : Int) (Z1hx : Int) (Z1ks : Int) (Z1kt : Int) (Z1ku : Int) (Z1kv : Bool) (Z1kw : Bool) (Z1kx : Nat) (Z1ky : Option Nat) (Z1kz : List D) (Z1ai : Bool) (Z1aj : Nat) (Z1ak : Option Nat) (Z1al : List D) (Z1am : Int) (Z1an : Int) (Z1ao : Int) (Z1ap : Int) (Z1aq : Int) (Z1ar : Int) : Z1d m a0_0 a0_1 a0_2 a1_0 a1_1 a1_2n a1_2c a1_2 a1_3 a1_4n a1_4c a1_4 a1_5 a1_6 a1_7 Z1hw Z1hx Z1ks Z1kt Z1ku Z1kv Z1kw Z1kx Z1ky Z1kz Z1ai Z1aj Z1ak Z1al Z1am Z1an Z1ao Z1ap Z1aq Z1ar =
 (cond (Z1hx != (-1 : Int))
 (some (D.agg [(D.v (.int .i64 (mm true a0_0 a1_5))),(D.v (.int .i64 (mm true (IntKind.wrap .i64 (a0_1 - (1 : Int))) a1_6))),(D.v (.int .i64 (mm true Z1hw Z1hx)))]))
 (some (D.agg [(D.v (.int .i64 (mm true a0_0 a1_5))),(D.v (.int .i64 (mm true (IntKind.wrap .i64 (a0_1 - (1 : Int))) a1_6))),(D.v (.int .i64 Z1hw))]))) := (Z12 m _).trans (by kernel_rfl)
noncomputable def Z1e (m : Nat) (a0_0 : Int) (a0_1 : Int) (a0_2 : Int) (a1_0 : Bool) (a1_1 : Bool) (a1_2n : Nat) (a1_2c : Option Nat) (a1_2 : List D) (a1_3 : Bool) (a1_4n : Nat) (a1_4c : Option Nat) (a1_4 : List D) (a1_5 : Int) (a1_6 : Int) (a1_7 : Int) (Z1hy : Int) (Z1hz : Int) (Z1l0 : Int) (Z1l1 : Int) (Z1l2 : Int) (Z1l3 : Bool) (Z1l4 : Bool) (Z1l5 : Nat) (Z1l6 : Option Nat) (Z1l7 : List D) (Z1as : Bool) (Z1at : Nat) (Z1au : Option Nat) (Z1av : List D) (Z1aw : Int) (Z1ax : Int) (Z1ay : Int) (Z1az : Int) (Z1b0 : Int) (Z1b1 : Int) : Option D :=
 cutK m (codeK Tg Z0.sp ⟨3,[],true,[]⟩ (inlK Tg Z0 m 3) m Z4 (subc [1,1] (bodyOf Tryz.f155)) ⟨[(AV.d (D.v (.int .i64 Z1hy))),(AV.d (D.v (.int .i64 Z1hz))),Jk,Jk,Jk,Jk,Jk,Jk,Jk,Jk,Jk,Jk,Jk,Jk,Jk,Jk,Jk,Jk,Jk,Jk,Jk],[(Blk.d 3 [(D.v (.int .i64 Z1l0)),(D.v (.int .i64 Z1l1)),(D.v (.int .i64 Z1l2))]),(Blk.d 8 [(D.v (.bool Z1l3)),(D.v (.bool Z1l4)),(D.list Z1l5 Z1l6 Z1l7),(D.v (.bool Z1as)),(D.list Z1at Z1au Z1av),(D.v (.int .i64 Z1aw)),(D.v (.int .i64 Z1ax)),(D.v (.int .i64 Z1ay))]),(Blk.d 3 [(D.v (.int .i64 Z1az)),(D.v (.int .i64 Z1b0)),(D.v (.int .i64 Z1b1))])]⟩
  (contK Tg Z0.sp ⟨3,[],true,[]⟩ (inlK Tg Z0 m 3) m Z4 (endK Tg Tryz.f155 (fun v L => opsK Tg Z0.sp ⟨0,[],false,[]⟩ [true,true] (inlK Tg Z0 m 4) (regOps (subc [1,1,0] (bodyOf Tryz.f106))) (List.drop 18 (Array.toList (regOps (subc [1,1,0] (bodyOf Tryz.f106))))) ⟨setSl [(AV.d (D.agg [(D.v (.int .i64 a0_0)),(D.v (.int .i64 a0_1)),(D.v (.int .i64 a0_2))])),(AV.d (D.agg [(D.v (.bool a1_0)),(D.v (.bool a1_1)),(D.list a1_2n a1_2c a1_2),(D.v (.bool a1_3)),(D.list a1_4n a1_4c a1_4),(D.v (.int .i64 a1_5)),(D.v (.int .i64 a1_6)),(D.v (.int .i64 a1_7))])),(AV.ptr 0 0),(AV.ptr 1 0),(AV.ptr 2 0),(AV.clo 155 [(AV.ptr 1 0)]),(AV.clo 155 [(AV.ptr 1 0)]),(AV.clo 155 [(AV.ptr 1 0)]),(AV.ptr 0 0),(AV.d (D.v (.int .i64 a0_0))),(AV.ptr 1 5),(AV.d (D.v (.int .i64 a1_5))),(AV.d (D.v (.int .i64 (mm true a0_0 a1_5)))),(AV.clo 155 [(AV.ptr 1 0)]),(AV.ptr 0 1),(AV.d (D.v (.int .i64 a0_1))),(AV.ptr 1 6),(AV.d (D.v (.int .i64 a1_6))),(AV.d (D.v (.int .i64 (IntKind.wrap .i64 (a0_1 - (1 : Int)))))),(AV.clo 155 [(AV.ptr 1 0)]),(AV.ptr 0 2),(AV.d (D.v (.int .i64 a0_2))),(AV.ptr 1 7),(AV.d (D.v (.int .i64 a1_7))),Jk,Jk] (some 24) v,L⟩ (fun st => contK Tg Z0.sp ⟨0,[],false,[]⟩ (inlK Tg Z0 m 4) m Zg (endK Tg Tryz.f106 endV) [.code (subc [1,1,1] (bodyOf Tryz.f106))] .normal st))) []))
theorem Zdl (m : Nat) (a0_0 : Int) (a0_1 : Int) (a0_2 : Int) (a1_0 : Bool) (a1_1 : Bool) (a1_2n : Nat) (a1_2c : Option Nat) (a1_2 : List D) (a1_3 : Bool) (a1_4n : Nat) (a1_4c : Option Nat) (a1_4 : List D) (a1_5 : Int) (a1_6 : Int) (a1_7 : Int) (Z1hy : Int) (Z1hz : Int) (Z1l0 : Int) (Z1l1 : Int) (Z1l2 : Int) (Z1l3 : Bool) (Z1l4 : Bool) (Z1l5 : Nat) (Z1l6 : Option Nat) (Z1l7 : List D) (Z1as : Bool) (Z1at : Nat) (Z1au : Option Nat) (Z1av : List D) (Z1aw : Int) (Z1ax : Int) (Z1ay : Int) (Z1az : Int) (Z1b0 : Int) (Z1b1 : Int) : Z1e m a0_0 a0_1 a0_2 a1_0 a1_1 a1_2n a1_2c a1_2 a1_3 a1_4n a1_4c a1_4 a1_5 a1_6 a1_7 Z1hy Z1hz Z1l0 Z1l1 Z1l2 Z1l3 Z1l4 Z1l5 Z1l6 Z1l7 Z1as Z1at Z1au Z1av Z1aw Z1ax Z1ay Z1az Z1b0 Z1b1 =
 (cond (Z1hz != (-1 : Int))
 (some (D.agg [(D.v (.int .i64 (mm true a0_0 a1_5))),(D.v (.int .i64 (IntKind.wrap .i64 (a0_1 - (1 : Int))))),(D.v (.int .i64 (mm true Z1hy Z1hz)))]))
 (some (D.agg [(D.v (.int .i64 (mm true a0_0 a1_5))),(D.v (.int .i64 (IntKind.wrap .i64 (a0_1 - (1 : Int))))),(D.v (.int .i64 Z1hy))]))) := (Z12 m _).trans (by kernel_rfl)
noncomputable def Zh (m : Nat) (a0_0 : Int) (a0_1 : Int) (a0_2 : Int) (a1_0 : Bool) (a1_1 : Bool) (a1_2n : Nat) (a1_2c : Option Nat) (a1_2 : List D) (a1_3 : Bool) (a1_4n : Nat) (a1_4c : Option Nat) (a1_4 : List D) (a1_5 : Int) (a1_6 : Int) (a1_7 : Int) (Z188 : Int) (Z189 : Int) (Z1cd : Int) (Z1ce : Int) (Z1cf : Int) (Z1cg : Bool) (Z1ch : Bool) (Z1ci : Nat) (Z1cj : Option Nat) (Z1ck : List D) (Z13r : Bool) (Z13s : Nat) (Z13t : Option Nat) (Z13u : List D) (Z13v : Int) (Z13w : Int) (Z10g : Int) (Z13x : Int) (Zsz : Int) (Z13y : Int) : Option D :=
 cutK m (codeK Tg Z0.sp ⟨3,[],true,[]⟩ (inlK Tg Z0 m 3) m Z4 (subc [1,1] (bodyOf Tryz.f155)) ⟨[(AV.d (D.v (.int .i64 Z188))),(AV.d (D.v (.int .i64 Z189))),Jk,Jk,Jk,Jk,Jk,Jk,Jk,Jk,Jk,Jk,Jk,Jk,Jk,Jk,Jk,Jk,Jk,Jk,Jk],[(Blk.d 3 [(D.v (.int .i64 Z1cd)),(D.v (.int .i64 Z1ce)),(D.v (.int .i64 Z1cf))]),(Blk.d 8 [(D.v (.bool Z1cg)),(D.v (.bool Z1ch)),(D.list Z1ci Z1cj Z1ck),(D.v (.bool Z13r)),(D.list Z13s Z13t Z13u),(D.v (.int .i64 Z13v)),(D.v (.int .i64 Z13w)),(D.v (.int .i64 Z10g))]),(Blk.d 3 [(D.v (.int .i64 Z13x)),(D.v (.int .i64 Zsz)),(D.v (.int .i64 Z13y))])]⟩
  (contK Tg Z0.sp ⟨3,[],true,[]⟩ (inlK Tg Z0 m 3) m Z4 (endK Tg Tryz.f155 (fun v L => opsK Tg Z0.sp ⟨0,[],false,[]⟩ [true,true] (inlK Tg Z0 m 4) (regOps (subc [1,1,0] (bodyOf Tryz.f106))) (List.drop 18 (Array.toList (regOps (subc [1,1,0] (bodyOf Tryz.f106))))) ⟨setSl [(AV.d (D.agg [(D.v (.int .i64 a0_0)),(D.v (.int .i64 a0_1)),(D.v (.int .i64 a0_2))])),(AV.d (D.agg [(D.v (.bool a1_0)),(D.v (.bool a1_1)),(D.list a1_2n a1_2c a1_2),(D.v (.bool a1_3)),(D.list a1_4n a1_4c a1_4),(D.v (.int .i64 a1_5)),(D.v (.int .i64 a1_6)),(D.v (.int .i64 a1_7))])),(AV.ptr 0 0),(AV.ptr 1 0),(AV.ptr 2 0),(AV.clo 155 [(AV.ptr 1 0)]),(AV.clo 155 [(AV.ptr 1 0)]),(AV.clo 155 [(AV.ptr 1 0)]),(AV.ptr 0 0),(AV.d (D.v (.int .i64 a0_0))),(AV.ptr 1 5),(AV.d (D.v (.int .i64 a1_5))),(AV.d (D.v (.int .i64 (mm true a0_0 a1_5)))),(AV.clo 155 [(AV.ptr 1 0)]),(AV.ptr 0 1),(AV.d (D.v (.int .i64 a0_1))),(AV.ptr 1 6),(AV.d (D.v (.int .i64 a1_6))),(AV.d (D.v (.int .i64 (mm true a0_1 a1_6)))),(AV.clo 155 [(AV.ptr 1 0)]),(AV.ptr 0 2),(AV.d (D.v (.int .i64 a0_2))),(AV.ptr 1 7),(AV.d (D.v (.int .i64 a1_7))),Jk,Jk] (some 24) v,L⟩ (fun st => contK Tg Z0.sp ⟨0,[],false,[]⟩ (inlK Tg Z0 m 4) m Zg (endK Tg Tryz.f106 endV) [.code (subc [1,1,1] (bodyOf Tryz.f106))] .normal st))) []))
theorem Zce (m : Nat) (a0_0 : Int) (a0_1 : Int) (a0_2 : Int) (a1_0 : Bool) (a1_1 : Bool) (a1_2n : Nat) (a1_2c : Option Nat) (a1_2 : List D) (a1_3 : Bool) (a1_4n : Nat) (a1_4c : Option Nat) (a1_4 : List D) (a1_5 : Int) (a1_6 : Int) (a1_7 : Int) (Z188 : Int) (Z189 : Int) (Z1cd : Int) (Z1ce : Int) (Z1cf : Int) (Z1cg : Bool) (Z1ch : Bool) (Z1ci : Nat) (Z1cj : Option Nat) (Z1ck : List D) (Z13r : Bool) (Z13s : Nat) (Z13t : Option Nat) (Z13u : List D) (Z13v : Int) (Z13w : Int) (Z10g : Int) (Z13x : Int) (Zsz : Int) (Z13y : Int) : Zh m a0_0 a0_1 a0_2 a1_0 a1_1 a1_2n a1_2c a1_2 a1_3 a1_4n a1_4c a1_4 a1_5 a1_6 a1_7 Z188 Z189 Z1cd Z1ce Z1cf Z1cg Z1ch Z1ci Z1cj Z1ck Z13r Z13s Z13t Z13u Z13v Z13w Z10g Z13x Zsz Z13y =
 (cond (Z189 != (-1 : Int))
 (some (D.agg [(D.v (.int .i64 (mm true a0_0 a1_5))),(D.v (.int .i64 (mm true a0_1 a1_6))),(D.v (.int .i64 (mm true Z188 Z189)))]))
 (some (D.agg [(D.v (.int .i64 (mm true a0_0 a1_5))),(D.v (.int .i64 (mm true a0_1 a1_6))),(D.v (.int .i64 Z188))]))) := (Z12 m _).trans (by kernel_rfl)
noncomputable def Zi (m : Nat) (a0_0 : Int) (a0_1 : Int) (a0_2 : Int) (a1_0 : Bool) (a1_1 : Bool) (a1_2n : Nat) (a1_2c : Option Nat) (a1_2 : List D) (a1_3 : Bool) (a1_4n : Nat) (a1_4c : Option Nat) (a1_4 : List D) (a1_5 : Int) (a1_6 : Int) (a1_7 : Int) (Z1f4 : Int) (Z1f5 : Int) (Z1ln : Int) (Z1lo : Int) (Z1lp : Int) (Z1lq : Bool) (Z1lr : Bool) (Z1ls : Nat) (Z1lt : Option Nat) (Z1lu : List D) (Z1f6 : Bool) (Z1f7 : Nat) (Z1f8 : Option Nat) (Z1f9 : List D) (Z1fa : Int) (Z1fb : Int) (Z1fc : Int) (Z1fd : Int) (Z1fe : Int) (Z1ff : Int) : Option D :=
 cutK m (codeK Tg Z0.sp ⟨3,[],true,[]⟩ (inlK Tg Z0 m 3) m Z4 (subc [1,1] (bodyOf Tryz.f155)) ⟨[(AV.d (D.v (.int .i64 Z1f4))),(AV.d (D.v (.int .i64 Z1f5))),Jk,Jk,Jk,Jk,Jk,Jk,Jk,Jk,Jk,Jk,Jk,Jk,Jk,Jk,Jk,Jk,Jk,Jk,Jk],[(Blk.d 3 [(D.v (.int .i64 Z1ln)),(D.v (.int .i64 Z1lo)),(D.v (.int .i64 Z1lp))]),(Blk.d 8 [(D.v (.bool Z1lq)),(D.v (.bool Z1lr)),(D.list Z1ls Z1lt Z1lu),(D.v (.bool Z1f6)),(D.list Z1f7 Z1f8 Z1f9),(D.v (.int .i64 Z1fa)),(D.v (.int .i64 Z1fb)),(D.v (.int .i64 Z1fc))]),(Blk.d 3 [(D.v (.int .i64 Z1fd)),(D.v (.int .i64 Z1fe)),(D.v (.int .i64 Z1ff))])]⟩
  (contK Tg Z0.sp ⟨3,[],true,[]⟩ (inlK Tg Z0 m 3) m Z4 (endK Tg Tryz.f155 (fun v L => opsK Tg Z0.sp ⟨0,[],false,[]⟩ [true,true] (inlK Tg Z0 m 4) (regOps (subc [1,1,0] (bodyOf Tryz.f106))) (List.drop 18 (Array.toList (regOps (subc [1,1,0] (bodyOf Tryz.f106))))) ⟨setSl [(AV.d (D.agg [(D.v (.int .i64 a0_0)),(D.v (.int .i64 a0_1)),(D.v (.int .i64 a0_2))])),(AV.d (D.agg [(D.v (.bool a1_0)),(D.v (.bool a1_1)),(D.list a1_2n a1_2c a1_2),(D.v (.bool a1_3)),(D.list a1_4n a1_4c a1_4),(D.v (.int .i64 a1_5)),(D.v (.int .i64 a1_6)),(D.v (.int .i64 a1_7))])),(AV.ptr 0 0),(AV.ptr 1 0),(AV.ptr 2 0),(AV.clo 155 [(AV.ptr 1 0)]),(AV.clo 155 [(AV.ptr 1 0)]),(AV.clo 155 [(AV.ptr 1 0)]),(AV.ptr 0 0),(AV.d (D.v (.int .i64 a0_0))),(AV.ptr 1 5),(AV.d (D.v (.int .i64 a1_5))),(AV.d (D.v (.int .i64 (mm true a0_0 a1_5)))),(AV.clo 155 [(AV.ptr 1 0)]),(AV.ptr 0 1),(AV.d (D.v (.int .i64 a0_1))),(AV.ptr 1 6),(AV.d (D.v (.int .i64 a1_6))),(AV.d (D.v (.int .i64 a0_1))),(AV.clo 155 [(AV.ptr 1 0)]),(AV.ptr 0 2),(AV.d (D.v (.int .i64 a0_2))),(AV.ptr 1 7),(AV.d (D.v (.int .i64 a1_7))),Jk,Jk] (some 24) v,L⟩ (fun st => contK Tg Z0.sp ⟨0,[],false,[]⟩ (inlK Tg Z0 m 4) m Zg (endK Tg Tryz.f106 endV) [.code (subc [1,1,1] (bodyOf Tryz.f106))] .normal st))) []))
theorem Zcf (m : Nat) (a0_0 : Int) (a0_1 : Int) (a0_2 : Int) (a1_0 : Bool) (a1_1 : Bool) (a1_2n : Nat) (a1_2c : Option Nat) (a1_2 : List D) (a1_3 : Bool) (a1_4n : Nat) (a1_4c : Option Nat) (a1_4 : List D) (a1_5 : Int) (a1_6 : Int) (a1_7 : Int) (Z1f4 : Int) (Z1f5 : Int) (Z1ln : Int) (Z1lo : Int) (Z1lp : Int) (Z1lq : Bool) (Z1lr : Bool) (Z1ls : Nat) (Z1lt : Option Nat) (Z1lu : List D) (Z1f6 : Bool) (Z1f7 : Nat) (Z1f8 : Option Nat) (Z1f9 : List D) (Z1fa : Int) (Z1fb : Int) (Z1fc : Int) (Z1fd : Int) (Z1fe : Int) (Z1ff : Int) : Zi m a0_0 a0_1 a0_2 a1_0 a1_1 a1_2n a1_2c a1_2 a1_3 a1_4n a1_4c a1_4 a1_5 a1_6 a1_7 Z1f4 Z1f5 Z1ln Z1lo Z1lp Z1lq Z1lr Z1ls Z1lt Z1lu Z1f6 Z1f7 Z1f8 Z1f9 Z1fa Z1fb Z1fc Z1fd Z1fe Z1ff =
 (cond (Z1f5 != (-1 : Int))
 (some (D.agg [(D.v (.int .i64 (mm true a0_0 a1_5))),(D.v (.int .i64 a0_1)),(D.v (.int .i64 (mm true Z1f4 Z1f5)))]))
 (some (D.agg [(D.v (.int .i64 (mm true a0_0 a1_5))),(D.v (.int .i64 a0_1)),(D.v (.int .i64 Z1f4))]))) := (Z12 m _).trans (by kernel_rfl)
noncomputable def Z13 (m : Nat) (a0_0 : Int) (a0_1 : Int) (a0_2 : Int) (a1_0 : Bool) (a1_1 : Bool) (a1_2n : Nat) (a1_2c : Option Nat) (a1_2 : List D) (a1_3 : Bool) (a1_4n : Nat) (a1_4c : Option Nat) (a1_4 : List D) (a1_5 : Int) (a1_6 : Int) (a1_7 : Int) (Z1fg : Int) (Z1fh : Int) (Z1lv : Int) (Z1lw : Int) (Z1lx : Int) (Z1ly : Bool) (Z1lz : Bool) (Z1m0 : Nat) (Z1m1 : Option Nat) (Z1m2 : List D) (Z1fi : Bool) (Z1fj : Nat) (Z1fk : Option Nat) (Z1fl : List D) (Z1fm : Int) (Z1fn : Int) (Z1fo : Int) (Z1fp : Int) (Z1fq : Int) (Z1fr : Int) : Option D :=
 cutK m (codeK Tg Z0.sp ⟨3,[],true,[]⟩ (inlK Tg Z0 m 3) m Z4 (subc [1,1] (bodyOf Tryz.f155)) ⟨[(AV.d (D.v (.int .i64 Z1fg))),(AV.d (D.v (.int .i64 Z1fh))),Jk,Jk,Jk,Jk,Jk,Jk,Jk,Jk,Jk,Jk,Jk,Jk,Jk,Jk,Jk,Jk,Jk,Jk,Jk],[(Blk.d 3 [(D.v (.int .i64 Z1lv)),(D.v (.int .i64 Z1lw)),(D.v (.int .i64 Z1lx))]),(Blk.d 8 [(D.v (.bool Z1ly)),(D.v (.bool Z1lz)),(D.list Z1m0 Z1m1 Z1m2),(D.v (.bool Z1fi)),(D.list Z1fj Z1fk Z1fl),(D.v (.int .i64 Z1fm)),(D.v (.int .i64 Z1fn)),(D.v (.int .i64 Z1fo))]),(Blk.d 3 [(D.v (.int .i64 Z1fp)),(D.v (.int .i64 Z1fq)),(D.v (.int .i64 Z1fr))])]⟩
  (contK Tg Z0.sp ⟨3,[],true,[]⟩ (inlK Tg Z0 m 3) m Z4 (endK Tg Tryz.f155 (fun v L => opsK Tg Z0.sp ⟨0,[],false,[]⟩ [true,true] (inlK Tg Z0 m 4) (regOps (subc [1,1,0] (bodyOf Tryz.f106))) (List.drop 18 (Array.toList (regOps (subc [1,1,0] (bodyOf Tryz.f106))))) ⟨setSl [(AV.d (D.agg [(D.v (.int .i64 a0_0)),(D.v (.int .i64 a0_1)),(D.v (.int .i64 a0_2))])),(AV.d (D.agg [(D.v (.bool a1_0)),(D.v (.bool a1_1)),(D.list a1_2n a1_2c a1_2),(D.v (.bool a1_3)),(D.list a1_4n a1_4c a1_4),(D.v (.int .i64 a1_5)),(D.v (.int .i64 a1_6)),(D.v (.int .i64 a1_7))])),(AV.ptr 0 0),(AV.ptr 1 0),(AV.ptr 2 0),(AV.clo 155 [(AV.ptr 1 0)]),(AV.clo 155 [(AV.ptr 1 0)]),(AV.clo 155 [(AV.ptr 1 0)]),(AV.ptr 0 0),(AV.d (D.v (.int .i64 a0_0))),(AV.ptr 1 5),(AV.d (D.v (.int .i64 a1_5))),(AV.d (D.v (.int .i64 a0_0))),(AV.clo 155 [(AV.ptr 1 0)]),(AV.ptr 0 1),(AV.d (D.v (.int .i64 a0_1))),(AV.ptr 1 6),(AV.d (D.v (.int .i64 a1_6))),(AV.d (D.v (.int .i64 (mm true (IntKind.wrap .i64 (a0_1 - (1 : Int))) a1_6)))),(AV.clo 155 [(AV.ptr 1 0)]),(AV.ptr 0 2),(AV.d (D.v (.int .i64 a0_2))),(AV.ptr 1 7),(AV.d (D.v (.int .i64 a1_7))),Jk,Jk] (some 24) v,L⟩ (fun st => contK Tg Z0.sp ⟨0,[],false,[]⟩ (inlK Tg Z0 m 4) m Zg (endK Tg Tryz.f106 endV) [.code (subc [1,1,1] (bodyOf Tryz.f106))] .normal st))) []))
theorem Zcg (m : Nat) (a0_0 : Int) (a0_1 : Int) (a0_2 : Int) (a1_0 : Bool) (a1_1 : Bool) (a1_2n : Nat) (a1_2c : Option Nat) (a1_2 : List D) (a1_3 : Bool) (a1_4n : Nat) (a1_4c : Option Nat) (a1_4 : List D) (a1_5 : Int) (a1_6 : Int) (a1_7 : Int) (Z1fg : Int) (Z1fh : Int) (Z1lv : Int) (Z1lw : Int) (Z1lx : Int) (Z1ly : Bool) (Z1lz : Bool) (Z1m0 : Nat) (Z1m1 : Option Nat) (Z1m2 : List D) (Z1fi : Bool) (Z1fj : Nat) (Z1fk : Option Nat) (Z1fl : List D) (Z1fm : Int) (Z1fn : Int) (Z1fo : Int) (Z1fp : Int) (Z1fq : Int) (Z1fr : Int) : Z13 m a0_0 a0_1 a0_2 a1_0 a1_1 a1_2n a1_2c a1_2 a1_3 a1_4n a1_4c a1_4 a1_5 a1_6 a1_7 Z1fg Z1fh Z1lv Z1lw Z1lx Z1ly Z1lz Z1m0 Z1m1 Z1m2 Z1fi Z1fj Z1fk Z1fl Z1fm Z1fn Z1fo Z1fp Z1fq Z1fr =
 (cond (Z1fh != (-1 : Int))
 (some (D.agg [(D.v (.int .i64 a0_0)),(D.v (.int .i64 (mm true (IntKind.wrap .i64 (a0_1 - (1 : Int))) a1_6))),(D.v (.int .i64 (mm true Z1fg Z1fh)))]))
 (some (D.agg [(D.v (.int .i64 a0_0)),(D.v (.int .i64 (mm true (IntKind.wrap .i64 (a0_1 - (1 : Int))) a1_6))),(D.v (.int .i64 Z1fg))]))) := (Z12 m _).trans (by kernel_rfl)
noncomputable def Z14 (m : Nat) (a0_0 : Int) (a0_1 : Int) (a0_2 : Int) (a1_0 : Bool) (a1_1 : Bool) (a1_2n : Nat) (a1_2c : Option Nat) (a1_2 : List D) (a1_3 : Bool) (a1_4n : Nat) (a1_4c : Option Nat) (a1_4 : List D) (a1_5 : Int) (a1_6 : Int) (a1_7 : Int) (Z1fs : Int) (Z1ft : Int) (Z1m3 : Int) (Z1m4 : Int) (Z1m5 : Int) (Z1m6 : Bool) (Z1m7 : Bool) (Z1m8 : Nat) (Z1m9 : Option Nat) (Z1ma : List D) (Z1fu : Bool) (Z1fv : Nat) (Z1fw : Option Nat) (Z1fx : List D) (Z1fy : Int) (Z1fz : Int) (Z1g0 : Int) (Z1g1 : Int) (Z1g2 : Int) (Z1g3 : Int) : Option D :=
 cutK m (codeK Tg Z0.sp ⟨3,[],true,[]⟩ (inlK Tg Z0 m 3) m Z4 (subc [1,1] (bodyOf Tryz.f155)) ⟨[(AV.d (D.v (.int .i64 Z1fs))),(AV.d (D.v (.int .i64 Z1ft))),Jk,Jk,Jk,Jk,Jk,Jk,Jk,Jk,Jk,Jk,Jk,Jk,Jk,Jk,Jk,Jk,Jk,Jk,Jk],[(Blk.d 3 [(D.v (.int .i64 Z1m3)),(D.v (.int .i64 Z1m4)),(D.v (.int .i64 Z1m5))]),(Blk.d 8 [(D.v (.bool Z1m6)),(D.v (.bool Z1m7)),(D.list Z1m8 Z1m9 Z1ma),(D.v (.bool Z1fu)),(D.list Z1fv Z1fw Z1fx),(D.v (.int .i64 Z1fy)),(D.v (.int .i64 Z1fz)),(D.v (.int .i64 Z1g0))]),(Blk.d 3 [(D.v (.int .i64 Z1g1)),(D.v (.int .i64 Z1g2)),(D.v (.int .i64 Z1g3))])]⟩
  (contK Tg Z0.sp ⟨3,[],true,[]⟩ (inlK Tg Z0 m 3) m Z4 (endK Tg Tryz.f155 (fun v L => opsK Tg Z0.sp ⟨0,[],false,[]⟩ [true,true] (inlK Tg Z0 m 4) (regOps (subc [1,1,0] (bodyOf Tryz.f106))) (List.drop 18 (Array.toList (regOps (subc [1,1,0] (bodyOf Tryz.f106))))) ⟨setSl [(AV.d (D.agg [(D.v (.int .i64 a0_0)),(D.v (.int .i64 a0_1)),(D.v (.int .i64 a0_2))])),(AV.d (D.agg [(D.v (.bool a1_0)),(D.v (.bool a1_1)),(D.list a1_2n a1_2c a1_2),(D.v (.bool a1_3)),(D.list a1_4n a1_4c a1_4),(D.v (.int .i64 a1_5)),(D.v (.int .i64 a1_6)),(D.v (.int .i64 a1_7))])),(AV.ptr 0 0),(AV.ptr 1 0),(AV.ptr 2 0),(AV.clo 155 [(AV.ptr 1 0)]),(AV.clo 155 [(AV.ptr 1 0)]),(AV.clo 155 [(AV.ptr 1 0)]),(AV.ptr 0 0),(AV.d (D.v (.int .i64 a0_0))),(AV.ptr 1 5),(AV.d (D.v (.int .i64 a1_5))),(AV.d (D.v (.int .i64 a0_0))),(AV.clo 155 [(AV.ptr 1 0)]),(AV.ptr 0 1),(AV.d (D.v (.int .i64 a0_1))),(AV.ptr 1 6),(AV.d (D.v (.int .i64 a1_6))),(AV.d (D.v (.int .i64 (IntKind.wrap .i64 (a0_1 - (1 : Int)))))),(AV.clo 155 [(AV.ptr 1 0)]),(AV.ptr 0 2),(AV.d (D.v (.int .i64 a0_2))),(AV.ptr 1 7),(AV.d (D.v (.int .i64 a1_7))),Jk,Jk] (some 24) v,L⟩ (fun st => contK Tg Z0.sp ⟨0,[],false,[]⟩ (inlK Tg Z0 m 4) m Zg (endK Tg Tryz.f106 endV) [.code (subc [1,1,1] (bodyOf Tryz.f106))] .normal st))) []))
theorem Zch (m : Nat) (a0_0 : Int) (a0_1 : Int) (a0_2 : Int) (a1_0 : Bool) (a1_1 : Bool) (a1_2n : Nat) (a1_2c : Option Nat) (a1_2 : List D) (a1_3 : Bool) (a1_4n : Nat) (a1_4c : Option Nat) (a1_4 : List D) (a1_5 : Int) (a1_6 : Int) (a1_7 : Int) (Z1fs : Int) (Z1ft : Int) (Z1m3 : Int) (Z1m4 : Int) (Z1m5 : Int) (Z1m6 : Bool) (Z1m7 : Bool) (Z1m8 : Nat) (Z1m9 : Option Nat) (Z1ma : List D) (Z1fu : Bool) (Z1fv : Nat) (Z1fw : Option Nat) (Z1fx : List D) (Z1fy : Int) (Z1fz : Int) (Z1g0 : Int) (Z1g1 : Int) (Z1g2 : Int) (Z1g3 : Int) : Z14 m a0_0 a0_1 a0_2 a1_0 a1_1 a1_2n a1_2c a1_2 a1_3 a1_4n a1_4c a1_4 a1_5 a1_6 a1_7 Z1fs Z1ft Z1m3 Z1m4 Z1m5 Z1m6 Z1m7 Z1m8 Z1m9 Z1ma Z1fu Z1fv Z1fw Z1fx Z1fy Z1fz Z1g0 Z1g1 Z1g2 Z1g3 =
 (cond (Z1ft != (-1 : Int))
 (some (D.agg [(D.v (.int .i64 a0_0)),(D.v (.int .i64 (IntKind.wrap .i64 (a0_1 - (1 : Int))))),(D.v (.int .i64 (mm true Z1fs Z1ft)))]))
 (some (D.agg [(D.v (.int .i64 a0_0)),(D.v (.int .i64 (IntKind.wrap .i64 (a0_1 - (1 : Int))))),(D.v (.int .i64 Z1fs))]))) := (Z12 m _).trans (by kernel_rfl)
noncomputable def Zj (m : Nat) (a0_0 : Int) (a0_1 : Int) (a0_2 : Int) (a1_0 : Bool) (a1_1 : Bool) (a1_2n : Nat) (a1_2c : Option Nat) (a1_2 : List D) (a1_3 : Bool) (a1_4n : Nat) (a1_4c : Option Nat) (a1_4 : List D) (a1_5 : Int) (a1_6 : Int) (a1_7 : Int) (Z1g4 : Int) (Z1g5 : Int) (Z1mb : Int) (Z1mc : Int) (Z1md : Int) (Z1me : Bool) (Z1mf : Bool) (Z1mg : Nat) (Z1mh : Option Nat) (Z1mi : List D) (Z1g6 : Bool) (Z1g7 : Nat) (Z1g8 : Option Nat) (Z1g9 : List D) (Z1ga : Int) (Z1gb : Int) (Z1gc : Int) (Z1gd : Int) (Z1ge : Int) (Z1gf : Int) : Option D :=
 cutK m (codeK Tg Z0.sp ⟨3,[],true,[]⟩ (inlK Tg Z0 m 3) m Z4 (subc [1,1] (bodyOf Tryz.f155)) ⟨[(AV.d (D.v (.int .i64 Z1g4))),(AV.d (D.v (.int .i64 Z1g5))),Jk,Jk,Jk,Jk,Jk,Jk,Jk,Jk,Jk,Jk,Jk,Jk,Jk,Jk,Jk,Jk,Jk,Jk,Jk],[(Blk.d 3 [(D.v (.int .i64 Z1mb)),(D.v (.int .i64 Z1mc)),(D.v (.int .i64 Z1md))]),(Blk.d 8 [(D.v (.bool Z1me)),(D.v (.bool Z1mf)),(D.list Z1mg Z1mh Z1mi),(D.v (.bool Z1g6)),(D.list Z1g7 Z1g8 Z1g9),(D.v (.int .i64 Z1ga)),(D.v (.int .i64 Z1gb)),(D.v (.int .i64 Z1gc))]),(Blk.d 3 [(D.v (.int .i64 Z1gd)),(D.v (.int .i64 Z1ge)),(D.v (.int .i64 Z1gf))])]⟩
  (contK Tg Z0.sp ⟨3,[],true,[]⟩ (inlK Tg Z0 m 3) m Z4 (endK Tg Tryz.f155 (fun v L => opsK Tg Z0.sp ⟨0,[],false,[]⟩ [true,true] (inlK Tg Z0 m 4) (regOps (subc [1,1,0] (bodyOf Tryz.f106))) (List.drop 18 (Array.toList (regOps (subc [1,1,0] (bodyOf Tryz.f106))))) ⟨setSl [(AV.d (D.agg [(D.v (.int .i64 a0_0)),(D.v (.int .i64 a0_1)),(D.v (.int .i64 a0_2))])),(AV.d (D.agg [(D.v (.bool a1_0)),(D.v (.bool a1_1)),(D.list a1_2n a1_2c a1_2),(D.v (.bool a1_3)),(D.list a1_4n a1_4c a1_4),(D.v (.int .i64 a1_5)),(D.v (.int .i64 a1_6)),(D.v (.int .i64 a1_7))])),(AV.ptr 0 0),(AV.ptr 1 0),(AV.ptr 2 0),(AV.clo 155 [(AV.ptr 1 0)]),(AV.clo 155 [(AV.ptr 1 0)]),(AV.clo 155 [(AV.ptr 1 0)]),(AV.ptr 0 0),(AV.d (D.v (.int .i64 a0_0))),(AV.ptr 1 5),(AV.d (D.v (.int .i64 a1_5))),(AV.d (D.v (.int .i64 a0_0))),(AV.clo 155 [(AV.ptr 1 0)]),(AV.ptr 0 1),(AV.d (D.v (.int .i64 a0_1))),(AV.ptr 1 6),(AV.d (D.v (.int .i64 a1_6))),(AV.d (D.v (.int .i64 (mm true a0_1 a1_6)))),(AV.clo 155 [(AV.ptr 1 0)]),(AV.ptr 0 2),(AV.d (D.v (.int .i64 a0_2))),(AV.ptr 1 7),(AV.d (D.v (.int .i64 a1_7))),Jk,Jk] (some 24) v,L⟩ (fun st => contK Tg Z0.sp ⟨0,[],false,[]⟩ (inlK Tg Z0 m 4) m Zg (endK Tg Tryz.f106 endV) [.code (subc [1,1,1] (bodyOf Tryz.f106))] .normal st))) []))
theorem Zci (m : Nat) (a0_0 : Int) (a0_1 : Int) (a0_2 : Int) (a1_0 : Bool) (a1_1 : Bool) (a1_2n : Nat) (a1_2c : Option Nat) (a1_2 : List D) (a1_3 : Bool) (a1_4n : Nat) (a1_4c : Option Nat) (a1_4 : List D) (a1_5 : Int) (a1_6 : Int) (a1_7 : Int) (Z1g4 : Int) (Z1g5 : Int) (Z1mb : Int) (Z1mc : Int) (Z1md : Int) (Z1me : Bool) (Z1mf : Bool) (Z1mg : Nat) (Z1mh : Option Nat) (Z1mi : List D) (Z1g6 : Bool) (Z1g7 : Nat) (Z1g8 : Option Nat) (Z1g9 : List D) (Z1ga : Int) (Z1gb : Int) (Z1gc : Int) (Z1gd : Int) (Z1ge : Int) (Z1gf : Int) : Zj m a0_0 a0_1 a0_2 a1_0 a1_1 a1_2n a1_2c a1_2 a1_3 a1_4n a1_4c a1_4 a1_5 a1_6 a1_7 Z1g4 Z1g5 Z1mb Z1mc Z1md Z1me Z1mf Z1mg Z1mh Z1mi Z1g6 Z1g7 Z1g8 Z1g9 Z1ga Z1gb Z1gc Z1gd Z1ge Z1gf =
 (cond (Z1g5 != (-1 : Int))
 (some (D.agg [(D.v (.int .i64 a0_0)),(D.v (.int .i64 (mm true a0_1 a1_6))),(D.v (.int .i64 (mm true Z1g4 Z1g5)))]))
 (some (D.agg [(D.v (.int .i64 a0_0)),(D.v (.int .i64 (mm true a0_1 a1_6))),(D.v (.int .i64 Z1g4))]))) := (Z12 m _).trans (by kernel_rfl)
noncomputable def Zk (m : Nat) (a0_0 : Int) (a0_1 : Int) (a0_2 : Int) (a1_0 : Bool) (a1_1 : Bool) (a1_2n : Nat) (a1_2c : Option Nat) (a1_2 : List D) (a1_3 : Bool) (a1_4n : Nat) (a1_4c : Option Nat) (a1_4 : List D) (a1_5 : Int) (a1_6 : Int) (a1_7 : Int) (Z1gg : Int) (Z1gh : Int) (Z1mj : Int) (Z1mk : Int) (Z1ml : Int) (Z1mm : Bool) (Z1mn : Bool) (Z1mo : Nat) (Z1mp : Option Nat) (Z1mq : List D) (Z1gi : Bool) (Z1gj : Nat) (Z1gk : Option Nat) (Z1gl : List D) (Z1gm : Int) (Z1gn : Int) (Z1go : Int) (Z1gp : Int) (Z1gq : Int) (Z1gr : Int) : Option D :=
 cutK m (codeK Tg Z0.sp ⟨3,[],true,[]⟩ (inlK Tg Z0 m 3) m Z4 (subc [1,1] (bodyOf Tryz.f155)) ⟨[(AV.d (D.v (.int .i64 Z1gg))),(AV.d (D.v (.int .i64 Z1gh))),Jk,Jk,Jk,Jk,Jk,Jk,Jk,Jk,Jk,Jk,Jk,Jk,Jk,Jk,Jk,Jk,Jk,Jk,Jk],[(Blk.d 3 [(D.v (.int .i64 Z1mj)),(D.v (.int .i64 Z1mk)),(D.v (.int .i64 Z1ml))]),(Blk.d 8 [(D.v (.bool Z1mm)),(D.v (.bool Z1mn)),(D.list Z1mo Z1mp Z1mq),(D.v (.bool Z1gi)),(D.list Z1gj Z1gk Z1gl),(D.v (.int .i64 Z1gm)),(D.v (.int .i64 Z1gn)),(D.v (.int .i64 Z1go))]),(Blk.d 3 [(D.v (.int .i64 Z1gp)),(D.v (.int .i64 Z1gq)),(D.v (.int .i64 Z1gr))])]⟩
  (contK Tg Z0.sp ⟨3,[],true,[]⟩ (inlK Tg Z0 m 3) m Z4 (endK Tg Tryz.f155 (fun v L => opsK Tg Z0.sp ⟨0,[],false,[]⟩ [true,true] (inlK Tg Z0 m 4) (regOps (subc [1,1,0] (bodyOf Tryz.f106))) (List.drop 18 (Array.toList (regOps (subc [1,1,0] (bodyOf Tryz.f106))))) ⟨setSl [(AV.d (D.agg [(D.v (.int .i64 a0_0)),(D.v (.int .i64 a0_1)),(D.v (.int .i64 a0_2))])),(AV.d (D.agg [(D.v (.bool a1_0)),(D.v (.bool a1_1)),(D.list a1_2n a1_2c a1_2),(D.v (.bool a1_3)),(D.list a1_4n a1_4c a1_4),(D.v (.int .i64 a1_5)),(D.v (.int .i64 a1_6)),(D.v (.int .i64 a1_7))])),(AV.ptr 0 0),(AV.ptr 1 0),(AV.ptr 2 0),(AV.clo 155 [(AV.ptr 1 0)]),(AV.clo 155 [(AV.ptr 1 0)]),(AV.clo 155 [(AV.ptr 1 0)]),(AV.ptr 0 0),(AV.d (D.v (.int .i64 a0_0))),(AV.ptr 1 5),(AV.d (D.v (.int .i64 a1_5))),(AV.d (D.v (.int .i64 a0_0))),(AV.clo 155 [(AV.ptr 1 0)]),(AV.ptr 0 1),(AV.d (D.v (.int .i64 a0_1))),(AV.ptr 1 6),(AV.d (D.v (.int .i64 a1_6))),(AV.d (D.v (.int .i64 a0_1))),(AV.clo 155 [(AV.ptr 1 0)]),(AV.ptr 0 2),(AV.d (D.v (.int .i64 a0_2))),(AV.ptr 1 7),(AV.d (D.v (.int .i64 a1_7))),Jk,Jk] (some 24) v,L⟩ (fun st => contK Tg Z0.sp ⟨0,[],false,[]⟩ (inlK Tg Z0 m 4) m Zg (endK Tg Tryz.f106 endV) [.code (subc [1,1,1] (bodyOf Tryz.f106))] .normal st))) []))
theorem Zcj (m : Nat) (a0_0 : Int) (a0_1 : Int) (a0_2 : Int) (a1_0 : Bool) (a1_1 : Bool) (a1_2n : Nat) (a1_2c : Option Nat) (a1_2 : List D) (a1_3 : Bool) (a1_4n : Nat) (a1_4c : Option Nat) (a1_4 : List D) (a1_5 : Int) (a1_6 : Int) (a1_7 : Int) (Z1gg : Int) (Z1gh : Int) (Z1mj : Int) (Z1mk : Int) (Z1ml : Int) (Z1mm : Bool) (Z1mn : Bool) (Z1mo : Nat) (Z1mp : Option Nat) (Z1mq : List D) (Z1gi : Bool) (Z1gj : Nat) (Z1gk : Option Nat) (Z1gl : List D) (Z1gm : Int) (Z1gn : Int) (Z1go : Int) (Z1gp : Int) (Z1gq : Int) (Z1gr : Int) : Zk m a0_0 a0_1 a0_2 a1_0 a1_1 a1_2n a1_2c a1_2 a1_3 a1_4n a1_4c a1_4 a1_5 a1_6 a1_7 Z1gg Z1gh Z1mj Z1mk Z1ml Z1mm Z1mn Z1mo Z1mp Z1mq Z1gi Z1gj Z1gk Z1gl Z1gm Z1gn Z1go Z1gp Z1gq Z1gr =
 (cond (Z1gh != (-1 : Int))
 (some (D.agg [(D.v (.int .i64 a0_0)),(D.v (.int .i64 a0_1)),(D.v (.int .i64 (mm true Z1gg Z1gh)))]))
 (some (D.agg [(D.v (.int .i64 a0_0)),(D.v (.int .i64 a0_1)),(D.v (.int .i64 Z1gg))]))) := (Z12 m _).trans (by kernel_rfl)
noncomputable def Zh7 (m : Nat) (a0_0 : Int) (a0_1 : Int) (a0_2 : Int) (a1_0 : Bool) (a1_1 : Bool) (a1_2n : Nat) (a1_2c : Option Nat) (a1_2 : List D) (a1_3 : Bool) (a1_4n : Nat) (a1_4c : Option Nat) (a1_4 : List D) (a1_5 : Int) (a1_6 : Int) (a1_7 : Int) : Option D :=
 cond (!a1_0)
 (cond (decide (a0_0 > (0 : Int)))
 (cond (a1_5 != (-1 : Int))
 (cond (!a1_0)
 (cond (decide (a0_1 > (0 : Int)))
 (cond (a1_6 != (-1 : Int))
 (cond (!a1_0)
 (cond (decide (a0_2 > (0 : Int)))
 (Z39 m a0_0 a0_1 a0_2 a1_0 a1_1 a1_2n a1_2c a1_2 a1_3 a1_4n a1_4c a1_4 a1_5 a1_6 a1_7 (IntKind.wrap .i64 (a0_2 - (1 : Int))) a1_7 a0_0 a0_1 a0_2 a1_0 a1_1 a1_2n a1_2c a1_2 a1_3 a1_4n a1_4c a1_4 a1_5 a1_6 a1_7 (0 : Int) (0 : Int) (0 : Int))
 (Z39 m a0_0 a0_1 a0_2 a1_0 a1_1 a1_2n a1_2c a1_2 a1_3 a1_4n a1_4c a1_4 a1_5 a1_6 a1_7 a0_2 a1_7 a0_0 a0_1 a0_2 a1_0 a1_1 a1_2n a1_2c a1_2 a1_3 a1_4n a1_4c a1_4 a1_5 a1_6 a1_7 (0 : Int) (0 : Int) (0 : Int)))
 (Z39 m a0_0 a0_1 a0_2 a1_0 a1_1 a1_2n a1_2c a1_2 a1_3 a1_4n a1_4c a1_4 a1_5 a1_6 a1_7 a0_2 a1_7 a0_0 a0_1 a0_2 a1_0 a1_1 a1_2n a1_2c a1_2 a1_3 a1_4n a1_4c a1_4 a1_5 a1_6 a1_7 (0 : Int) (0 : Int) (0 : Int)))
 (cond (!a1_0)
 (cond (decide (a0_2 > (0 : Int)))
 (Z2y m a0_0 a0_1 a0_2 a1_0 a1_1 a1_2n a1_2c a1_2 a1_3 a1_4n a1_4c a1_4 a1_5 a1_6 a1_7 (IntKind.wrap .i64 (a0_2 - (1 : Int))) a1_7 a0_0 a0_1 a0_2 a1_0 a1_1 a1_2n a1_2c a1_2 a1_3 a1_4n a1_4c a1_4 a1_5 a1_6 a1_7 (0 : Int) (0 : Int) (0 : Int))
 (Z2y m a0_0 a0_1 a0_2 a1_0 a1_1 a1_2n a1_2c a1_2 a1_3 a1_4n a1_4c a1_4 a1_5 a1_6 a1_7 a0_2 a1_7 a0_0 a0_1 a0_2 a1_0 a1_1 a1_2n a1_2c a1_2 a1_3 a1_4n a1_4c a1_4 a1_5 a1_6 a1_7 (0 : Int) (0 : Int) (0 : Int)))
 (Z2y m a0_0 a0_1 a0_2 a1_0 a1_1 a1_2n a1_2c a1_2 a1_3 a1_4n a1_4c a1_4 a1_5 a1_6 a1_7 a0_2 a1_7 a0_0 a0_1 a0_2 a1_0 a1_1 a1_2n a1_2c a1_2 a1_3 a1_4n a1_4c a1_4 a1_5 a1_6 a1_7 (0 : Int) (0 : Int) (0 : Int))))
 (cond (a1_6 != (-1 : Int))
 (cond (!a1_0)
 (cond (decide (a0_2 > (0 : Int)))
 (Z19 m a0_0 a0_1 a0_2 a1_0 a1_1 a1_2n a1_2c a1_2 a1_3 a1_4n a1_4c a1_4 a1_5 a1_6 a1_7 (IntKind.wrap .i64 (a0_2 - (1 : Int))) a1_7 a0_0 a0_1 a0_2 a1_0 a1_1 a1_2n a1_2c a1_2 a1_3 a1_4n a1_4c a1_4 a1_5 a1_6 a1_7 (0 : Int) (0 : Int) (0 : Int))
 (Z19 m a0_0 a0_1 a0_2 a1_0 a1_1 a1_2n a1_2c a1_2 a1_3 a1_4n a1_4c a1_4 a1_5 a1_6 a1_7 a0_2 a1_7 a0_0 a0_1 a0_2 a1_0 a1_1 a1_2n a1_2c a1_2 a1_3 a1_4n a1_4c a1_4 a1_5 a1_6 a1_7 (0 : Int) (0 : Int) (0 : Int)))
 (Z19 m a0_0 a0_1 a0_2 a1_0 a1_1 a1_2n a1_2c a1_2 a1_3 a1_4n a1_4c a1_4 a1_5 a1_6 a1_7 a0_2 a1_7 a0_0 a0_1 a0_2 a1_0 a1_1 a1_2n a1_2c a1_2 a1_3 a1_4n a1_4c a1_4 a1_5 a1_6 a1_7 (0 : Int) (0 : Int) (0 : Int)))
 (cond (!a1_0)
 (cond (decide (a0_2 > (0 : Int)))
 (Z1a m a0_0 a0_1 a0_2 a1_0 a1_1 a1_2n a1_2c a1_2 a1_3 a1_4n a1_4c a1_4 a1_5 a1_6 a1_7 (IntKind.wrap .i64 (a0_2 - (1 : Int))) a1_7 a0_0 a0_1 a0_2 a1_0 a1_1 a1_2n a1_2c a1_2 a1_3 a1_4n a1_4c a1_4 a1_5 a1_6 a1_7 (0 : Int) (0 : Int) (0 : Int))
 (Z1a m a0_0 a0_1 a0_2 a1_0 a1_1 a1_2n a1_2c a1_2 a1_3 a1_4n a1_4c a1_4 a1_5 a1_6 a1_7 a0_2 a1_7 a0_0 a0_1 a0_2 a1_0 a1_1 a1_2n a1_2c a1_2 a1_3 a1_4n a1_4c a1_4 a1_5 a1_6 a1_7 (0 : Int) (0 : Int) (0 : Int)))
 (Z1a m a0_0 a0_1 a0_2 a1_0 a1_1 a1_2n a1_2c a1_2 a1_3 a1_4n a1_4c a1_4 a1_5 a1_6 a1_7 a0_2 a1_7 a0_0 a0_1 a0_2 a1_0 a1_1 a1_2n a1_2c a1_2 a1_3 a1_4n a1_4c a1_4 a1_5 a1_6 a1_7 (0 : Int) (0 : Int) (0 : Int)))))
 (cond (a1_6 != (-1 : Int))
 (cond (!a1_0)
 (cond (decide (a0_2 > (0 : Int)))
 (Z19 m a0_0 a0_1 a0_2 a1_0 a1_1 a1_2n a1_2c a1_2 a1_3 a1_4n a1_4c a1_4 a1_5 a1_6 a1_7 (IntKind.wrap .i64 (a0_2 - (1 : Int))) a1_7 a0_0 a0_1 a0_2 a1_0 a1_1 a1_2n a1_2c a1_2 a1_3 a1_4n a1_4c a1_4 a1_5 a1_6 a1_7 (0 : Int) (0 : Int) (0 : Int))
 (Z19 m a0_0 a0_1 a0_2 a1_0 a1_1 a1_2n a1_2c a1_2 a1_3 a1_4n a1_4c a1_4 a1_5 a1_6 a1_7 a0_2 a1_7 a0_0 a0_1 a0_2 a1_0 a1_1 a1_2n a1_2c a1_2 a1_3 a1_4n a1_4c a1_4 a1_5 a1_6 a1_7 (0 : Int) (0 : Int) (0 : Int)))
 (Z19 m a0_0 a0_1 a0_2 a1_0 a1_1 a1_2n a1_2c a1_2 a1_3 a1_4n a1_4c a1_4 a1_5 a1_6 a1_7 a0_2 a1_7 a0_0 a0_1 a0_2 a1_0 a1_1 a1_2n a1_2c a1_2 a1_3 a1_4n a1_4c a1_4 a1_5 a1_6 a1_7 (0 : Int) (0 : Int) (0 : Int)))
 (cond (!a1_0)
 (cond (decide (a0_2 > (0 : Int)))
 (Z1a m a0_0 a0_1 a0_2 a1_0 a1_1 a1_2n a1_2c a1_2 a1_3 a1_4n a1_4c a1_4 a1_5 a1_6 a1_7 (IntKind.wrap .i64 (a0_2 - (1 : Int))) a1_7 a0_0 a0_1 a0_2 a1_0 a1_1 a1_2n a1_2c a1_2 a1_3 a1_4n a1_4c a1_4 a1_5 a1_6 a1_7 (0 : Int) (0 : Int) (0 : Int))
 (Z1a m a0_0 a0_1 a0_2 a1_0 a1_1 a1_2n a1_2c a1_2 a1_3 a1_4n a1_4c a1_4 a1_5 a1_6 a1_7 a0_2 a1_7 a0_0 a0_1 a0_2 a1_0 a1_1 a1_2n a1_2c a1_2 a1_3 a1_4n a1_4c a1_4 a1_5 a1_6 a1_7 (0 : Int) (0 : Int) (0 : Int)))
 (Z1a m a0_0 a0_1 a0_2 a1_0 a1_1 a1_2n a1_2c a1_2 a1_3 a1_4n a1_4c a1_4 a1_5 a1_6 a1_7 a0_2 a1_7 a0_0 a0_1 a0_2 a1_0 a1_1 a1_2n a1_2c a1_2 a1_3 a1_4n a1_4c a1_4 a1_5 a1_6 a1_7 (0 : Int) (0 : Int) (0 : Int)))))
 (cond (!a1_0)
 (cond (decide (a0_1 > (0 : Int)))
 (cond (a1_6 != (-1 : Int))
 (cond (!a1_0)
 (cond (decide (a0_2 > (0 : Int)))
 (Z2z m a0_0 a0_1 a0_2 a1_0 a1_1 a1_2n a1_2c a1_2 a1_3 a1_4n a1_4c a1_4 a1_5 a1_6 a1_7 (IntKind.wrap .i64 (a0_2 - (1 : Int))) a1_7 a0_0 a0_1 a0_2 a1_0 a1_1 a1_2n a1_2c a1_2 a1_3 a1_4n a1_4c a1_4 a1_5 a1_6 a1_7 (0 : Int) (0 : Int) (0 : Int))
 (Z2z m a0_0 a0_1 a0_2 a1_0 a1_1 a1_2n a1_2c a1_2 a1_3 a1_4n a1_4c a1_4 a1_5 a1_6 a1_7 a0_2 a1_7 a0_0 a0_1 a0_2 a1_0 a1_1 a1_2n a1_2c a1_2 a1_3 a1_4n a1_4c a1_4 a1_5 a1_6 a1_7 (0 : Int) (0 : Int) (0 : Int)))
 (Z2z m a0_0 a0_1 a0_2 a1_0 a1_1 a1_2n a1_2c a1_2 a1_3 a1_4n a1_4c a1_4 a1_5 a1_6 a1_7 a0_2 a1_7 a0_0 a0_1 a0_2 a1_0 a1_1 a1_2n a1_2c a1_2 a1_3 a1_4n a1_4c a1_4 a1_5 a1_6 a1_7 (0 : Int) (0 : Int) (0 : Int)))
 (cond (!a1_0)
 (cond (decide (a0_2 > (0 : Int)))
 (Z30 m a0_0 a0_1 a0_2 a1_0 a1_1 a1_2n a1_2c a1_2 a1_3 a1_4n a1_4c a1_4 a1_5 a1_6 a1_7 (IntKind.wrap .i64 (a0_2 - (1 : Int))) a1_7 a0_0 a0_1 a0_2 a1_0 a1_1 a1_2n a1_2c a1_2 a1_3 a1_4n a1_4c a1_4 a1_5 a1_6 a1_7 (0 : Int) (0 : Int) (0 : Int))
 (Z30 m a0_0 a0_1 a0_2 a1_0 a1_1 a1_2n a1_2c a1_2 a1_3 a1_4n a1_4c a1_4 a1_5 a1_6 a1_7 a0_2 a1_7 a0_0 a0_1 a0_2 a1_0 a1_1 a1_2n a1_2c a1_2 a1_3 a1_4n a1_4c a1_4 a1_5 a1_6 a1_7 (0 : Int) (0 : Int) (0 : Int)))
 (Z30 m a0_0 a0_1 a0_2 a1_0 a1_1 a1_2n a1_2c a1_2 a1_3 a1_4n a1_4c a1_4 a1_5 a1_6 a1_7 a0_2 a1_7 a0_0 a0_1 a0_2 a1_0 a1_1 a1_2n a1_2c a1_2 a1_3 a1_4n a1_4c a1_4 a1_5 a1_6 a1_7 (0 : Int) (0 : Int) (0 : Int))))
 (cond (a1_6 != (-1 : Int))
 (cond (!a1_0)
 (cond (decide (a0_2 > (0 : Int)))
 (Z1b m a0_0 a0_1 a0_2 a1_0 a1_1 a1_2n a1_2c a1_2 a1_3 a1_4n a1_4c a1_4 a1_5 a1_6 a1_7 (IntKind.wrap .i64 (a0_2 - (1 : Int))) a1_7 a0_0 a0_1 a0_2 a1_0 a1_1 a1_2n a1_2c a1_2 a1_3 a1_4n a1_4c a1_4 a1_5 a1_6 a1_7 (0 : Int) (0 : Int) (0 : Int))
 (Z1b m a0_0 a0_1 a0_2 a1_0 a1_1 a1_2n a1_2c a1_2 a1_3 a1_4n a1_4c a1_4 a1_5 a1_6 a1_7 a0_2 a1_7 a0_0 a0_1 a0_2 a1_0 a1_1 a1_2n a1_2c a1_2 a1_3 a1_4n a1_4c a1_4 a1_5 a1_6 a1_7 (0 : Int) (0 : Int) (0 : Int)))
 (Z1b m a0_0 a0_1 a0_2 a1_0 a1_1 a1_2n a1_2c a1_2 a1_3 a1_4n a1_4c a1_4 a1_5 a1_6 a1_7 a0_2 a1_7 a0_0 a0_1 a0_2 a1_0 a1_1 a1_2n a1_2c a1_2 a1_3 a1_4n a1_4c a1_4 a1_5 a1_6 a1_7 (0 : Int) (0 : Int) (0 : Int)))
 (cond (!a1_0)
 (cond (decide (a0_2 > (0 : Int)))
 (Z1c m a0_0 a0_1 a0_2 a1_0 a1_1 a1_2n a1_2c a1_2 a1_3 a1_4n a1_4c a1_4 a1_5 a1_6 a1_7 (IntKind.wrap .i64 (a0_2 - (1 : Int))) a1_7 a0_0 a0_1 a0_2 a1_0 a1_1 a1_2n a1_2c a1_2 a1_3 a1_4n a1_4c a1_4 a1_5 a1_6 a1_7 (0 : Int) (0 : Int) (0 : Int))
 (Z1c m a0_0 a0_1 a0_2 a1_0 a1_1 a1_2n a1_2c a1_2 a1_3 a1_4n a1_4c a1_4 a1_5 a1_6 a1_7 a0_2 a1_7 a0_0 a0_1 a0_2 a1_0 a1_1 a1_2n a1_2c a1_2 a1_3 a1_4n a1_4c a1_4 a1_5 a1_6 a1_7 (0 : Int) (0 : Int) (0 : Int)))
 (Z1c m a0_0 a0_1 a0_2 a1_0 a1_1 a1_2n a1_2c a1_2 a1_3 a1_4n a1_4c a1_4 a1_5 a1_6 a1_7 a0_2 a1_7 a0_0 a0_1 a0_2 a1_0 a1_1 a1_2n a1_2c a1_2 a1_3 a1_4n a1_4c a1_4 a1_5 a1_6 a1_7 (0 : Int) (0 : Int) (0 : Int)))))
 (cond (a1_6 != (-1 : Int))
 (cond (!a1_0)
 (cond (decide (a0_2 > (0 : Int)))
 (Z1b m a0_0 a0_1 a0_2 a1_0 a1_1 a1_2n a1_2c a1_2 a1_3 a1_4n a1_4c a1_4 a1_5 a1_6 a1_7 (IntKind.wrap .i64 (a0_2 - (1 : Int))) a1_7 a0_0 a0_1 a0_2 a1_0 a1_1 a1_2n a1_2c a1_2 a1_3 a1_4n a1_4c a1_4 a1_5 a1_6 a1_7 (0 : Int) (0 : Int) (0 : Int))
 (Z1b m a0_0 a0_1 a0_2 a1_0 a1_1 a1_2n a1_2c a1_2 a1_3 a1_4n a1_4c a1_4 a1_5 a1_6 a1_7 a0_2 a1_7 a0_0 a0_1 a0_2 a1_0 a1_1 a1_2n a1_2c a1_2 a1_3 a1_4n a1_4c a1_4 a1_5 a1_6 a1_7 (0 : Int) (0 : Int) (0 : Int)))
 (Z1b m a0_0 a0_1 a0_2 a1_0 a1_1 a1_2n a1_2c a1_2 a1_3 a1_4n a1_4c a1_4 a1_5 a1_6 a1_7 a0_2 a1_7 a0_0 a0_1 a0_2 a1_0 a1_1 a1_2n a1_2c a1_2 a1_3 a1_4n a1_4c a1_4 a1_5 a1_6 a1_7 (0 : Int) (0 : Int) (0 : Int)))
 (cond (!a1_0)
 (cond (decide (a0_2 > (0 : Int)))
 (Z1c m a0_0 a0_1 a0_2 a1_0 a1_1 a1_2n a1_2c a1_2 a1_3 a1_4n a1_4c a1_4 a1_5 a1_6 a1_7 (IntKind.wrap .i64 (a0_2 - (1 : Int))) a1_7 a0_0 a0_1 a0_2 a1_0 a1_1 a1_2n a1_2c a1_2 a1_3 a1_4n a1_4c a1_4 a1_5 a1_6 a1_7 (0 : Int) (0 : Int) (0 : Int))
 (Z1c m a0_0 a0_1 a0_2 a1_0 a1_1 a1_2n a1_2c a1_2 a1_3 a1_4n a1_4c a1_4 a1_5 a1_6 a1_7 a0_2 a1_7 a0_0 a0_1 a0_2 a1_0 a1_1 a1_2n a1_2c a1_2 a1_3 a1_4n a1_4c a1_4 a1_5 a1_6 a1_7 (0 : Int) (0 : Int) (0 : Int)))
 (Z1c m a0_0 a0_1 a0_2 a1_0 a1_1 a1_2n a1_2c a1_2 a1_3 a1_4n a1_4c a1_4 a1_5 a1_6 a1_7 a0_2 a1_7 a0_0 a0_1 a0_2 a1_0 a1_1 a1_2n a1_2c a1_2 a1_3 a1_4n a1_4c a1_4 a1_5 a1_6 a1_7 (0 : Int) (0 : Int) (0 : Int))))))
 (cond (a1_5 != (-1 : Int))
 (cond (!a1_0)
 (cond (decide (a0_1 > (0 : Int)))
 (cond (a1_6 != (-1 : Int))
 (cond (!a1_0)
 (cond (decide (a0_2 > (0 : Int)))
 (Z1d m a0_0 a0_1 a0_2 a1_0 a1_1 a1_2n a1_2c a1_2 a1_3 a1_4n a1_4c a1_4 a1_5 a1_6 a1_7 (IntKind.wrap .i64 (a0_2 - (1 : Int))) a1_7 a0_0 a0_1 a0_2 a1_0 a1_1 a1_2n a1_2c a1_2 a1_3 a1_4n a1_4c a1_4 a1_5 a1_6 a1_7 (0 : Int) (0 : Int) (0 : Int))
 (Z1d m a0_0 a0_1 a0_2 a1_0 a1_1 a1_2n a1_2c a1_2 a1_3 a1_4n a1_4c a1_4 a1_5 a1_6 a1_7 a0_2 a1_7 a0_0 a0_1 a0_2 a1_0 a1_1 a1_2n a1_2c a1_2 a1_3 a1_4n a1_4c a1_4 a1_5 a1_6 a1_7 (0 : Int) (0 : Int) (0 : Int)))
 (Z1d m a0_0 a0_1 a0_2 a1_0 a1_1 a1_2n a1_2c a1_2 a1_3 a1_4n a1_4c a1_4 a1_5 a1_6 a1_7 a0_2 a1_7 a0_0 a0_1 a0_2 a1_0 a1_1 a1_2n a1_2c a1_2 a1_3 a1_4n a1_4c a1_4 a1_5 a1_6 a1_7 (0 : Int) (0 : Int) (0 : Int)))
 (cond (!a1_0)
 (cond (decide (a0_2 > (0 : Int)))
 (Z1e m a0_0 a0_1 a0_2 a1_0 a1_1 a1_2n a1_2c a1_2 a1_3 a1_4n a1_4c a1_4 a1_5 a1_6 a1_7 (IntKind.wrap .i64 (a0_2 - (1 : Int))) a1_7 a0_0 a0_1 a0_2 a1_0 a1_1 a1_2n a1_2c a1_2 a1_3 a1_4n a1_4c a1_4 a1_5 a1_6 a1_7 (0 : Int) (0 : Int) (0 : Int))
 (Z1e m a0_0 a0_1 a0_2 a1_0 a1_1 a1_2n a1_2c a1_2 a1_3 a1_4n a1_4c a1_4 a1_5 a1_6 a1_7 a0_2 a1_7 a0_0 a0_1 a0_2 a1_0 a1_1 a1_2n a1_2c a1_2 a1_3 a1_4n a1_4c a1_4 a1_5 a1_6 a1_7 (0 : Int) (0 : Int) (0 : Int)))
 (Z1e m a0_0 a0_1 a0_2 a1_0 a1_1 a1_2n a1_2c a1_2 a1_3 a1_4n a1_4c a1_4 a1_5 a1_6 a1_7 a0_2 a1_7 a0_0 a0_1 a0_2 a1_0 a1_1 a1_2n a1_2c a1_2 a1_3 a1_4n a1_4c a1_4 a1_5 a1_6 a1_7 (0 : Int) (0 : Int) (0 : Int))))
 (cond (a1_6 != (-1 : Int))
 (cond (!a1_0)
 (cond (decide (a0_2 > (0 : Int)))
 (Zh m a0_0 a0_1 a0_2 a1_0 a1_1 a1_2n a1_2c a1_2 a1_3 a1_4n a1_4c a1_4 a1_5 a1_6 a1_7 (IntKind.wrap .i64 (a0_2 - (1 : Int))) a1_7 a0_0 a0_1 a0_2 a1_0 a1_1 a1_2n a1_2c a1_2 a1_3 a1_4n a1_4c a1_4 a1_5 a1_6 a1_7 (0 : Int) (0 : Int) (0 : Int))
 (Zh m a0_0 a0_1 a0_2 a1_0 a1_1 a1_2n a1_2c a1_2 a1_3 a1_4n a1_4c a1_4 a1_5 a1_6 a1_7 a0_2 a1_7 a0_0 a0_1 a0_2 a1_0 a1_1 a1_2n a1_2c a1_2 a1_3 a1_4n a1_4c a1_4 a1_5 a1_6 a1_7 (0 : Int) (0 : Int) (0 : Int)))
 (Zh m a0_0 a0_1 a0_2 a1_0 a1_1 a1_2n a1_2c a1_2 a1_3 a1_4n a1_4c a1_4 a1_5 a1_6 a1_7 a0_2 a1_7 a0_0 a0_1 a0_2 a1_0 a1_1 a1_2n a1_2c a1_2 a1_3 a1_4n a1_4c a1_4 a1_5 a1_6 a1_7 (0 : Int) (0 : Int) (0 : Int)))
 (cond (!a1_0)
 (cond (decide (a0_2 > (0 : Int)))
 (Zi m a0_0 a0_1 a0_2 a1_0 a1_1 a1_2n a1_2c a1_2 a1_3 a1_4n a1_4c a1_4 a1_5 a1_6 a1_7 (IntKind.wrap .i64 (a0_2 - (1 : Int))) a1_7 a0_0 a0_1 a0_2 a1_0 a1_1 a1_2n a1_2c a1_2 a1_3 a1_4n a1_4c a1_4 a1_5 a1_6 a1_7 (0 : Int) (0 : Int) (0 : Int))
 (Zi m a0_0 a0_1 a0_2 a1_0 a1_1 a1_2n a1_2c a1_2 a1_3 a1_4n a1_4c a1_4 a1_5 a1_6 a1_7 a0_2 a1_7 a0_0 a0_1 a0_2 a1_0 a1_1 a1_2n a1_2c a1_2 a1_3 a1_4n a1_4c a1_4 a1_5 a1_6 a1_7 (0 : Int) (0 : Int) (0 : Int)))
 (Zi m a0_0 a0_1 a0_2 a1_0 a1_1 a1_2n a1_2c a1_2 a1_3 a1_4n a1_4c a1_4 a1_5 a1_6 a1_7 a0_2 a1_7 a0_0 a0_1 a0_2 a1_0 a1_1 a1_2n a1_2c a1_2 a1_3 a1_4n a1_4c a1_4 a1_5 a1_6 a1_7 (0 : Int) (0 : Int) (0 : Int)))))
 (cond (a1_6 != (-1 : Int))
 (cond (!a1_0)
 (cond (decide (a0_2 > (0 : Int)))
 (Zh m a0_0 a0_1 a0_2 a1_0 a1_1 a1_2n a1_2c a1_2 a1_3 a1_4n a1_4c a1_4 a1_5 a1_6 a1_7 (IntKind.wrap .i64 (a0_2 - (1 : Int))) a1_7 a0_0 a0_1 a0_2 a1_0 a1_1 a1_2n a1_2c a1_2 a1_3 a1_4n a1_4c a1_4 a1_5 a1_6 a1_7 (0 : Int) (0 : Int) (0 : Int))
 (Zh m a0_0 a0_1 a0_2 a1_0 a1_1 a1_2n a1_2c a1_2 a1_3 a1_4n a1_4c a1_4 a1_5 a1_6 a1_7 a0_2 a1_7 a0_0 a0_1 a0_2 a1_0 a1_1 a1_2n a1_2c a1_2 a1_3 a1_4n a1_4c a1_4 a1_5 a1_6 a1_7 (0 : Int) (0 : Int) (0 : Int)))
 (Zh m a0_0 a0_1 a0_2 a1_0 a1_1 a1_2n a1_2c a1_2 a1_3 a1_4n a1_4c a1_4 a1_5 a1_6 a1_7 a0_2 a1_7 a0_0 a0_1 a0_2 a1_0 a1_1 a1_2n a1_2c a1_2 a1_3 a1_4n a1_4c a1_4 a1_5 a1_6 a1_7 (0 : Int) (0 : Int) (0 : Int)))
 (cond (!a1_0)
 (cond (decide (a0_2 > (0 : Int)))
 (Zi m a0_0 a0_1 a0_2 a1_0 a1_1 a1_2n a1_2c a1_2 a1_3 a1_4n a1_4c a1_4 a1_5 a1_6 a1_7 (IntKind.wrap .i64 (a0_2 - (1 : Int))) a1_7 a0_0 a0_1 a0_2 a1_0 a1_1 a1_2n a1_2c a1_2 a1_3 a1_4n a1_4c a1_4 a1_5 a1_6 a1_7 (0 : Int) (0 : Int) (0 : Int))
 (Zi m a0_0 a0_1 a0_2 a1_0 a1_1 a1_2n a1_2c a1_2 a1_3 a1_4n a1_4c a1_4 a1_5 a1_6 a1_7 a0_2 a1_7 a0_0 a0_1 a0_2 a1_0 a1_1 a1_2n a1_2c a1_2 a1_3 a1_4n a1_4c a1_4 a1_5 a1_6 a1_7 (0 : Int) (0 : Int) (0 : Int)))
 (Zi m a0_0 a0_1 a0_2 a1_0 a1_1 a1_2n a1_2c a1_2 a1_3 a1_4n a1_4c a1_4 a1_5 a1_6 a1_7 a0_2 a1_7 a0_0 a0_1 a0_2 a1_0 a1_1 a1_2n a1_2c a1_2 a1_3 a1_4n a1_4c a1_4 a1_5 a1_6 a1_7 (0 : Int) (0 : Int) (0 : Int)))))
 (cond (!a1_0)
 (cond (decide (a0_1 > (0 : Int)))
 (cond (a1_6 != (-1 : Int))
 (cond (!a1_0)
 (cond (decide (a0_2 > (0 : Int)))
 (Z13 m a0_0 a0_1 a0_2 a1_0 a1_1 a1_2n a1_2c a1_2 a1_3 a1_4n a1_4c a1_4 a1_5 a1_6 a1_7 (IntKind.wrap .i64 (a0_2 - (1 : Int))) a1_7 a0_0 a0_1 a0_2 a1_0 a1_1 a1_2n a1_2c a1_2 a1_3 a1_4n a1_4c a1_4 a1_5 a1_6 a1_7 (0 : Int) (0 : Int) (0 : Int))
 (Z13 m a0_0 a0_1 a0_2 a1_0 a1_1 a1_2n a1_2c a1_2 a1_3 a1_4n a1_4c a1_4 a1_5 a1_6 a1_7 a0_2 a1_7 a0_0 a0_1 a0_2 a1_0 a1_1 a1_2n a1_2c a1_2 a1_3 a1_4n a1_4c a1_4 a1_5 a1_6 a1_7 (0 : Int) (0 : Int) (0 : Int)))
 (Z13 m a0_0 a0_1 a0_2 a1_0 a1_1 a1_2n a1_2c a1_2 a1_3 a1_4n a1_4c a1_4 a1_5 a1_6 a1_7 a0_2 a1_7 a0_0 a0_1 a0_2 a1_0 a1_1 a1_2n a1_2c a1_2 a1_3 a1_4n a1_4c a1_4 a1_5 a1_6 a1_7 (0 : Int) (0 : Int) (0 : Int)))
 (cond (!a1_0)
 (cond (decide (a0_2 > (0 : Int)))
 (Z14 m a0_0 a0_1 a0_2 a1_0 a1_1 a1_2n a1_2c a1_2 a1_3 a1_4n a1_4c a1_4 a1_5 a1_6 a1_7 (IntKind.wrap .i64 (a0_2 - (1 : Int))) a1_7 a0_0 a0_1 a0_2 a1_0 a1_1 a1_2n a1_2c a1_2 a1_3 a1_4n a1_4c a1_4 a1_5 a1_6 a1_7 (0 : Int) (0 : Int) (0 : Int))
 (Z14 m a0_0 a0_1 a0_2 a1_0 a1_1 a1_2n a1_2c a1_2 a1_3 a1_4n a1_4c a1_4 a1_5 a1_6 a1_7 a0_2 a1_7 a0_0 a0_1 a0_2 a1_0 a1_1 a1_2n a1_2c a1_2 a1_3 a1_4n a1_4c a1_4 a1_5 a1_6 a1_7 (0 : Int) (0 : Int) (0 : Int)))
 (Z14 m a0_0 a0_1 a0_2 a1_0 a1_1 a1_2n a1_2c a1_2 a1_3 a1_4n a1_4c a1_4 a1_5 a1_6 a1_7 a0_2 a1_7 a0_0 a0_1 a0_2 a1_0 a1_1 a1_2n a1_2c a1_2 a1_3 a1_4n a1_4c a1_4 a1_5 a1_6 a1_7 (0 : Int) (0 : Int) (0 : Int))))
 (cond (a1_6 != (-1 : Int))
 (cond (!a1_0)
 (cond (decide (a0_2 > (0 : Int)))
 (Zj m a0_0 a0_1 a0_2 a1_0 a1_1 a1_2n a1_2c a1_2 a1_3 a1_4n a1_4c a1_4 a1_5 a1_6 a1_7 (IntKind.wrap .i64 (a0_2 - (1 : Int))) a1_7 a0_0 a0_1 a0_2 a1_0 a1_1 a1_2n a1_2c a1_2 a1_3 a1_4n a1_4c a1_4 a1_5 a1_6 a1_7 (0 : Int) (0 : Int) (0 : Int))
 (Zj m a0_0 a0_1 a0_2 a1_0 a1_1 a1_2n a1_2c a1_2 a1_3 a1_4n a1_4c a1_4 a1_5 a1_6 a1_7 a0_2 a1_7 a0_0 a0_1 a0_2 a1_0 a1_1 a1_2n a1_2c a1_2 a1_3 a1_4n a1_4c a1_4 a1_5 a1_6 a1_7 (0 : Int) (0 : Int) (0 : Int)))
 (Zj m a0_0 a0_1 a0_2 a1_0 a1_1 a1_2n a1_2c a1_2 a1_3 a1_4n a1_4c a1_4 a1_5 a1_6 a1_7 a0_2 a1_7 a0_0 a0_1 a0_2 a1_0 a1_1 a1_2n a1_2c a1_2 a1_3 a1_4n a1_4c a1_4 a1_5 a1_6 a1_7 (0 : Int) (0 : Int) (0 : Int)))
 (cond (!a1_0)
 (cond (decide (a0_2 > (0 : Int)))
 (Zk m a0_0 a0_1 a0_2 a1_0 a1_1 a1_2n a1_2c a1_2 a1_3 a1_4n a1_4c a1_4 a1_5 a1_6 a1_7 (IntKind.wrap .i64 (a0_2 - (1 : Int))) a1_7 a0_0 a0_1 a0_2 a1_0 a1_1 a1_2n a1_2c a1_2 a1_3 a1_4n a1_4c a1_4 a1_5 a1_6 a1_7 (0 : Int) (0 : Int) (0 : Int))
 (Zk m a0_0 a0_1 a0_2 a1_0 a1_1 a1_2n a1_2c a1_2 a1_3 a1_4n a1_4c a1_4 a1_5 a1_6 a1_7 a0_2 a1_7 a0_0 a0_1 a0_2 a1_0 a1_1 a1_2n a1_2c a1_2 a1_3 a1_4n a1_4c a1_4 a1_5 a1_6 a1_7 (0 : Int) (0 : Int) (0 : Int)))
 (Zk m a0_0 a0_1 a0_2 a1_0 a1_1 a1_2n a1_2c a1_2 a1_3 a1_4n a1_4c a1_4 a1_5 a1_6 a1_7 a0_2 a1_7 a0_0 a0_1 a0_2 a1_0 a1_1 a1_2n a1_2c a1_2 a1_3 a1_4n a1_4c a1_4 a1_5 a1_6 a1_7 (0 : Int) (0 : Int) (0 : Int)))))
 (cond (a1_6 != (-1 : Int))
 (cond (!a1_0)
 (cond (decide (a0_2 > (0 : Int)))
 (Zj m a0_0 a0_1 a0_2 a1_0 a1_1 a1_2n a1_2c a1_2 a1_3 a1_4n a1_4c a1_4 a1_5 a1_6 a1_7 (IntKind.wrap .i64 (a0_2 - (1 : Int))) a1_7 a0_0 a0_1 a0_2 a1_0 a1_1 a1_2n a1_2c a1_2 a1_3 a1_4n a1_4c a1_4 a1_5 a1_6 a1_7 (0 : Int) (0 : Int) (0 : Int))
 (Zj m a0_0 a0_1 a0_2 a1_0 a1_1 a1_2n a1_2c a1_2 a1_3 a1_4n a1_4c a1_4 a1_5 a1_6 a1_7 a0_2 a1_7 a0_0 a0_1 a0_2 a1_0 a1_1 a1_2n a1_2c a1_2 a1_3 a1_4n a1_4c a1_4 a1_5 a1_6 a1_7 (0 : Int) (0 : Int) (0 : Int)))
 (Zj m a0_0 a0_1 a0_2 a1_0 a1_1 a1_2n a1_2c a1_2 a1_3 a1_4n a1_4c a1_4 a1_5 a1_6 a1_7 a0_2 a1_7 a0_0 a0_1 a0_2 a1_0 a1_1 a1_2n a1_2c a1_2 a1_3 a1_4n a1_4c a1_4 a1_5 a1_6 a1_7 (0 : Int) (0 : Int) (0 : Int)))
 (cond (!a1_0)
 (cond (decide (a0_2 > (0 : Int)))
 (Zk m a0_0 a0_1 a0_2 a1_0 a1_1 a1_2n a1_2c a1_2 a1_3 a1_4n a1_4c a1_4 a1_5 a1_6 a1_7 (IntKind.wrap .i64 (a0_2 - (1 : Int))) a1_7 a0_0 a0_1 a0_2 a1_0 a1_1 a1_2n a1_2c a1_2 a1_3 a1_4n a1_4c a1_4 a1_5 a1_6 a1_7 (0 : Int) (0 : Int) (0 : Int))
 (Zk m a0_0 a0_1 a0_2 a1_0 a1_1 a1_2n a1_2c a1_2 a1_3 a1_4n a1_4c a1_4 a1_5 a1_6 a1_7 a0_2 a1_7 a0_0 a0_1 a0_2 a1_0 a1_1 a1_2n a1_2c a1_2 a1_3 a1_4n a1_4c a1_4 a1_5 a1_6 a1_7 (0 : Int) (0 : Int) (0 : Int)))
 (Zk m a0_0 a0_1 a0_2 a1_0 a1_1 a1_2n a1_2c a1_2 a1_3 a1_4n a1_4c a1_4 a1_5 a1_6 a1_7 a0_2 a1_7 a0_0 a0_1 a0_2 a1_0 a1_1 a1_2n a1_2c a1_2 a1_3 a1_4n a1_4c a1_4 a1_5 a1_6 a1_7 (0 : Int) (0 : Int) (0 : Int)))))))
 (cond (a1_5 != (-1 : Int))
 (cond (!a1_0)
 (cond (decide (a0_1 > (0 : Int)))
 (cond (a1_6 != (-1 : Int))
 (cond (!a1_0)
 (cond (decide (a0_2 > (0 : Int)))
 (Z1d m a0_0 a0_1 a0_2 a1_0 a1_1 a1_2n a1_2c a1_2 a1_3 a1_4n a1_4c a1_4 a1_5 a1_6 a1_7 (IntKind.wrap .i64 (a0_2 - (1 : Int))) a1_7 a0_0 a0_1 a0_2 a1_0 a1_1 a1_2n a1_2c a1_2 a1_3 a1_4n a1_4c a1_4 a1_5 a1_6 a1_7 (0 : Int) (0 : Int) (0 : Int))
 (Z1d m a0_0 a0_1 a0_2 a1_0 a1_1 a1_2n a1_2c a1_2 a1_3 a1_4n a1_4c a1_4 a1_5 a1_6 a1_7 a0_2 a1_7 a0_0 a0_1 a0_2 a1_0 a1_1 a1_2n a1_2c a1_2 a1_3 a1_4n a1_4c a1_4 a1_5 a1_6 a1_7 (0 : Int) (0 : Int) (0 : Int)))
 (Z1d m a0_0 a0_1 a0_2 a1_0 a1_1 a1_2n a1_2c a1_2 a1_3 a1_4n a1_4c a1_4 a1_5 a1_6 a1_7 a0_2 a1_7 a0_0 a0_1 a0_2 a1_0 a1_1 a1_2n a1_2c a1_2 a1_3 a1_4n a1_4c a1_4 a1_5 a1_6 a1_7 (0 : Int) (0 : Int) (0 : Int)))
 (cond (!a1_0)
 (cond (decide (a0_2 > (0 : Int)))
 (Z1e m a0_0 a0_1 a0_2 a1_0 a1_1 a1_2n a1_2c a1_2 a1_3 a1_4n a1_4c a1_4 a1_5 a1_6 a1_7 (IntKind.wrap .i64 (a0_2 - (1 : Int))) a1_7 a0_0 a0_1 a0_2 a1_0 a1_1 a1_2n a1_2c a1_2 a1_3 a1_4n a1_4c a1_4 a1_5 a1_6 a1_7 (0 : Int) (0 : Int) (0 : Int))
 (Z1e m a0_0 a0_1 a0_2 a1_0 a1_1 a1_2n a1_2c a1_2 a1_3 a1_4n a1_4c a1_4 a1_5 a1_6 a1_7 a0_2 a1_7 a0_0 a0_1 a0_2 a1_0 a1_1 a1_2n a1_2c a1_2 a1_3 a1_4n a1_4c a1_4 a1_5 a1_6 a1_7 (0 : Int) (0 : Int) (0 : Int)))
 (Z1e m a0_0 a0_1 a0_2 a1_0 a1_1 a1_2n a1_2c a1_2 a1_3 a1_4n a1_4c a1_4 a1_5 a1_6 a1_7 a0_2 a1_7 a0_0 a0_1 a0_2 a1_0 a1_1 a1_2n a1_2c a1_2 a1_3 a1_4n a1_4c a1_4 a1_5 a1_6 a1_7 (0 : Int) (0 : Int) (0 : Int))))
 (cond (a1_6 != (-1 : Int))
 (cond (!a1_0)
 (cond (decide (a0_2 > (0 : Int)))
 (Zh m a0_0 a0_1 a0_2 a1_0 a1_1 a1_2n a1_2c a1_2 a1_3 a1_4n a1_4c a1_4 a1_5 a1_6 a1_7 (IntKind.wrap .i64 (a0_2 - (1 : Int))) a1_7 a0_0 a0_1 a0_2 a1_0 a1_1 a1_2n a1_2c a1_2 a1_3 a1_4n a1_4c a1_4 a1_5 a1_6 a1_7 (0 : Int) (0 : Int) (0 : Int))
 (Zh m a0_0 a0_1 a0_2 a1_0 a1_1 a1_2n a1_2c a1_2 a1_3 a1_4n a1_4c a1_4 a1_5 a1_6 a1_7 a0_2 a1_7 a0_0 a0_1 a0_2 a1_0 a1_1 a1_2n a1_2c a1_2 a1_3 a1_4n a1_4c a1_4 a1_5 a1_6 a1_7 (0 : Int) (0 : Int) (0 : Int)))
 (Zh m a0_0 a0_1 a0_2 a1_0 a1_1 a1_2n a1_2c a1_2 a1_3 a1_4n a1_4c a1_4 a1_5 a1_6 a1_7 a0_2 a1_7 a0_0 a0_1 a0_2 a1_0 a1_1 a1_2n a1_2c a1_2 a1_3 a1_4n a1_4c a1_4 a1_5 a1_6 a1_7 (0 : Int) (0 : Int) (0 : Int)))
 (cond (!a1_0)
 (cond (decide (a0_2 > (0 : Int)))
 (Zi m a0_0 a0_1 a0_2 a1_0 a1_1 a1_2n a1_2c a1_2 a1_3 a1_4n a1_4c a1_4 a1_5 a1_6 a1_7 (IntKind.wrap .i64 (a0_2 - (1 : Int))) a1_7 a0_0 a0_1 a0_2 a1_0 a1_1 a1_2n a1_2c a1_2 a1_3 a1_4n a1_4c a1_4 a1_5 a1_6 a1_7 (0 : Int) (0 : Int) (0 : Int))
 (Zi m a0_0 a0_1 a0_2 a1_0 a1_1 a1_2n a1_2c a1_2 a1_3 a1_4n a1_4c a1_4 a1_5 a1_6 a1_7 a0_2 a1_7 a0_0 a0_1 a0_2 a1_0 a1_1 a1_2n a1_2c a1_2 a1_3 a1_4n a1_4c a1_4 a1_5 a1_6 a1_7 (0 : Int) (0 : Int) (0 : Int)))
 (Zi m a0_0 a0_1 a0_2 a1_0 a1_1 a1_2n a1_2c a1_2 a1_3 a1_4n a1_4c a1_4 a1_5 a1_6 a1_7 a0_2 a1_7 a0_0 a0_1 a0_2 a1_0 a1_1 a1_2n a1_2c a1_2 a1_3 a1_4n a1_4c a1_4 a1_5 a1_6 a1_7 (0 : Int) (0 : Int) (0 : Int)))))
 (cond (a1_6 != (-1 : Int))
 (cond (!a1_0)
 (cond (decide (a0_2 > (0 : Int)))
 (Zh m a0_0 a0_1 a0_2 a1_0 a1_1 a1_2n a1_2c a1_2 a1_3 a1_4n a1_4c a1_4 a1_5 a1_6 a1_7 (IntKind.wrap .i64 (a0_2 - (1 : Int))) a1_7 a0_0 a0_1 a0_2 a1_0 a1_1 a1_2n a1_2c a1_2 a1_3 a1_4n a1_4c a1_4 a1_5 a1_6 a1_7 (0 : Int) (0 : Int) (0 : Int))
 (Zh m a0_0 a0_1 a0_2 a1_0 a1_1 a1_2n a1_2c a1_2 a1_3 a1_4n a1_4c a1_4 a1_5 a1_6 a1_7 a0_2 a1_7 a0_0 a0_1 a0_2 a1_0 a1_1 a1_2n a1_2c a1_2 a1_3 a1_4n a1_4c a1_4 a1_5 a1_6 a1_7 (0 : Int) (0 : Int) (0 : Int)))
 (Zh m a0_0 a0_1 a0_2 a1_0 a1_1 a1_2n a1_2c a1_2 a1_3 a1_4n a1_4c a1_4 a1_5 a1_6 a1_7 a0_2 a1_7 a0_0 a0_1 a0_2 a1_0 a1_1 a1_2n a1_2c a1_2 a1_3 a1_4n a1_4c a1_4 a1_5 a1_6 a1_7 (0 : Int) (0 : Int) (0 : Int)))
 (cond (!a1_0)
 (cond (decide (a0_2 > (0 : Int)))
 (Zi m a0_0 a0_1 a0_2 a1_0 a1_1 a1_2n a1_2c a1_2 a1_3 a1_4n a1_4c a1_4 a1_5 a1_6 a1_7 (IntKind.wrap .i64 (a0_2 - (1 : Int))) a1_7 a0_0 a0_1 a0_2 a1_0 a1_1 a1_2n a1_2c a1_2 a1_3 a1_4n a1_4c a1_4 a1_5 a1_6 a1_7 (0 : Int) (0 : Int) (0 : Int))
 (Zi m a0_0 a0_1 a0_2 a1_0 a1_1 a1_2n a1_2c a1_2 a1_3 a1_4n a1_4c a1_4 a1_5 a1_6 a1_7 a0_2 a1_7 a0_0 a0_1 a0_2 a1_0 a1_1 a1_2n a1_2c a1_2 a1_3 a1_4n a1_4c a1_4 a1_5 a1_6 a1_7 (0 : Int) (0 : Int) (0 : Int)))
 (Zi m a0_0 a0_1 a0_2 a1_0 a1_1 a1_2n a1_2c a1_2 a1_3 a1_4n a1_4c a1_4 a1_5 a1_6 a1_7 a0_2 a1_7 a0_0 a0_1 a0_2 a1_0 a1_1 a1_2n a1_2c a1_2 a1_3 a1_4n a1_4c a1_4 a1_5 a1_6 a1_7 (0 : Int) (0 : Int) (0 : Int)))))
 (cond (!a1_0)
 (cond (decide (a0_1 > (0 : Int)))
 (cond (a1_6 != (-1 : Int))
 (cond (!a1_0)
 (cond (decide (a0_2 > (0 : Int)))
 (Z13 m a0_0 a0_1 a0_2 a1_0 a1_1 a1_2n a1_2c a1_2 a1_3 a1_4n a1_4c a1_4 a1_5 a1_6 a1_7 (IntKind.wrap .i64 (a0_2 - (1 : Int))) a1_7 a0_0 a0_1 a0_2 a1_0 a1_1 a1_2n a1_2c a1_2 a1_3 a1_4n a1_4c a1_4 a1_5 a1_6 a1_7 (0 : Int) (0 : Int) (0 : Int))
 (Z13 m a0_0 a0_1 a0_2 a1_0 a1_1 a1_2n a1_2c a1_2 a1_3 a1_4n a1_4c a1_4 a1_5 a1_6 a1_7 a0_2 a1_7 a0_0 a0_1 a0_2 a1_0 a1_1 a1_2n a1_2c a1_2 a1_3 a1_4n a1_4c a1_4 a1_5 a1_6 a1_7 (0 : Int) (0 : Int) (0 : Int)))
 (Z13 m a0_0 a0_1 a0_2 a1_0 a1_1 a1_2n a1_2c a1_2 a1_3 a1_4n a1_4c a1_4 a1_5 a1_6 a1_7 a0_2 a1_7 a0_0 a0_1 a0_2 a1_0 a1_1 a1_2n a1_2c a1_2 a1_3 a1_4n a1_4c a1_4 a1_5 a1_6 a1_7 (0 : Int) (0 : Int) (0 : Int)))
 (cond (!a1_0)
 (cond (decide (a0_2 > (0 : Int)))
 (Z14 m a0_0 a0_1 a0_2 a1_0 a1_1 a1_2n a1_2c a1_2 a1_3 a1_4n a1_4c a1_4 a1_5 a1_6 a1_7 (IntKind.wrap .i64 (a0_2 - (1 : Int))) a1_7 a0_0 a0_1 a0_2 a1_0 a1_1 a1_2n a1_2c a1_2 a1_3 a1_4n a1_4c a1_4 a1_5 a1_6 a1_7 (0 : Int) (0 : Int) (0 : Int))
 (Z14 m a0_0 a0_1 a0_2 a1_0 a1_1 a1_2n a1_2c a1_2 a1_3 a1_4n a1_4c a1_4 a1_5 a1_6 a1_7 a0_2 a1_7 a0_0 a0_1 a0_2 a1_0 a1_1 a1_2n a1_2c a1_2 a1_3 a1_4n a1_4c a1_4 a1_5 a1_6 a1_7 (0 : Int) (0 : Int) (0 : Int)))
 (Z14 m a0_0 a0_1 a0_2 a1_0 a1_1 a1_2n a1_2c a1_2 a1_3 a1_4n a1_4c a1_4 a1_5 a1_6 a1_7 a0_2 a1_7 a0_0 a0_1 a0_2 a1_0 a1_1 a1_2n a1_2c a1_2 a1_3 a1_4n a1_4c a1_4 a1_5 a1_6 a1_7 (0 : Int) (0 : Int) (0 : Int))))
 (cond (a1_6 != (-1 : Int))
 (cond (!a1_0)
 (cond (decide (a0_2 > (0 : Int)))
 (Zj m a0_0 a0_1 a0_2 a1_0 a1_1 a1_2n a1_2c a1_2 a1_3 a1_4n a1_4c a1_4 a1_5 a1_6 a1_7 (IntKind.wrap .i64 (a0_2 - (1 : Int))) a1_7 a0_0 a0_1 a0_2 a1_0 a1_1 a1_2n a1_2c a1_2 a1_3 a1_4n a1_4c a1_4 a1_5 a1_6 a1_7 (0 : Int) (0 : Int) (0 : Int))
 (Zj m a0_0 a0_1 a0_2 a1_0 a1_1 a1_2n a1_2c a1_2 a1_3 a1_4n a1_4c a1_4 a1_5 a1_6 a1_7 a0_2 a1_7 a0_0 a0_1 a0_2 a1_0 a1_1 a1_2n a1_2c a1_2 a1_3 a1_4n a1_4c a1_4 a1_5 a1_6 a1_7 (0 : Int) (0 : Int) (0 : Int)))
 (Zj m a0_0 a0_1 a0_2 a1_0 a1_1 a1_2n a1_2c a1_2 a1_3 a1_4n a1_4c a1_4 a1_5 a1_6 a1_7 a0_2 a1_7 a0_0 a0_1 a0_2 a1_0 a1_1 a1_2n a1_2c a1_2 a1_3 a1_4n a1_4c a1_4 a1_5 a1_6 a1_7 (0 : Int) (0 : Int) (0 : Int)))
 (cond (!a1_0)
 (cond (decide (a0_2 > (0 : Int)))
 (Zk m a0_0 a0_1 a0_2 a1_0 a1_1 a1_2n a1_2c a1_2 a1_3 a1_4n a1_4c a1_4 a1_5 a1_6 a1_7 (IntKind.wrap .i64 (a0_2 - (1 : Int))) a1_7 a0_0 a0_1 a0_2 a1_0 a1_1 a1_2n a1_2c a1_2 a1_3 a1_4n a1_4c a1_4 a1_5 a1_6 a1_7 (0 : Int) (0 : Int) (0 : Int))
 (Zk m a0_0 a0_1 a0_2 a1_0 a1_1 a1_2n a1_2c a1_2 a1_3 a1_4n a1_4c a1_4 a1_5 a1_6 a1_7 a0_2 a1_7 a0_0 a0_1 a0_2 a1_0 a1_1 a1_2n a1_2c a1_2 a1_3 a1_4n a1_4c a1_4 a1_5 a1_6 a1_7 (0 : Int) (0 : Int) (0 : Int)))
 (Zk m a0_0 a0_1 a0_2 a1_0 a1_1 a1_2n a1_2c a1_2 a1_3 a1_4n a1_4c a1_4 a1_5 a1_6 a1_7 a0_2 a1_7 a0_0 a0_1 a0_2 a1_0 a1_1 a1_2n a1_2c a1_2 a1_3 a1_4n a1_4c a1_4 a1_5 a1_6 a1_7 (0 : Int) (0 : Int) (0 : Int)))))
 (cond (a1_6 != (-1 : Int))
 (cond (!a1_0)
 (cond (decide (a0_2 > (0 : Int)))
 (Zj m a0_0 a0_1 a0_2 a1_0 a1_1 a1_2n a1_2c a1_2 a1_3 a1_4n a1_4c a1_4 a1_5 a1_6 a1_7 (IntKind.wrap .i64 (a0_2 - (1 : Int))) a1_7 a0_0 a0_1 a0_2 a1_0 a1_1 a1_2n a1_2c a1_2 a1_3 a1_4n a1_4c a1_4 a1_5 a1_6 a1_7 (0 : Int) (0 : Int) (0 : Int))
 (Zj m a0_0 a0_1 a0_2 a1_0 a1_1 a1_2n a1_2c a1_2 a1_3 a1_4n a1_4c a1_4 a1_5 a1_6 a1_7 a0_2 a1_7 a0_0 a0_1 a0_2 a1_0 a1_1 a1_2n a1_2c a1_2 a1_3 a1_4n a1_4c a1_4 a1_5 a1_6 a1_7 (0 : Int) (0 : Int) (0 : Int)))
 (Zj m a0_0 a0_1 a0_2 a1_0 a1_1 a1_2n a1_2c a1_2 a1_3 a1_4n a1_4c a1_4 a1_5 a1_6 a1_7 a0_2 a1_7 a0_0 a0_1 a0_2 a1_0 a1_1 a1_2n a1_2c a1_2 a1_3 a1_4n a1_4c a1_4 a1_5 a1_6 a1_7 (0 : Int) (0 : Int) (0 : Int)))
 (cond (!a1_0)
 (cond (decide (a0_2 > (0 : Int)))
 (Zk m a0_0 a0_1 a0_2 a1_0 a1_1 a1_2n a1_2c a1_2 a1_3 a1_4n a1_4c a1_4 a1_5 a1_6 a1_7 (IntKind.wrap .i64 (a0_2 - (1 : Int))) a1_7 a0_0 a0_1 a0_2 a1_0 a1_1 a1_2n a1_2c a1_2 a1_3 a1_4n a1_4c a1_4 a1_5 a1_6 a1_7 (0 : Int) (0 : Int) (0 : Int))
 (Zk m a0_0 a0_1 a0_2 a1_0 a1_1 a1_2n a1_2c a1_2 a1_3 a1_4n a1_4c a1_4 a1_5 a1_6 a1_7 a0_2 a1_7 a0_0 a0_1 a0_2 a1_0 a1_1 a1_2n a1_2c a1_2 a1_3 a1_4n a1_4c a1_4 a1_5 a1_6 a1_7 (0 : Int) (0 : Int) (0 : Int)))
 (Zk m a0_0 a0_1 a0_2 a1_0 a1_1 a1_2n a1_2c a1_2 a1_3 a1_4n a1_4c a1_4 a1_5 a1_6 a1_7 a0_2 a1_7 a0_0 a0_1 a0_2 a1_0 a1_1 a1_2n a1_2c a1_2 a1_3 a1_4n a1_4c a1_4 a1_5 a1_6 a1_7 (0 : Int) (0 : Int) (0 : Int))))))
theorem Zwu (m : Nat) (a0_0 : Int) (a0_1 : Int) (a0_2 : Int) (a1_0 : Bool) (a1_1 : Bool) (a1_2n : Nat) (a1_2c : Option Nat) (a1_2 : List D) (a1_3 : Bool) (a1_4n : Nat) (a1_4c : Option Nat) (a1_4 : List D) (a1_5 : Int) (a1_6 : Int) (a1_7 : Int) : funD Tg Z0 m 4 Zg Tryz.f106 [(D.agg [(D.v (.int .i64 a0_0)),(D.v (.int .i64 a0_1)),(D.v (.int .i64 a0_2))]),(D.agg [(D.v (.bool a1_0)),(D.v (.bool a1_1)),(D.list a1_2n a1_2c a1_2),(D.v (.bool a1_3)),(D.list a1_4n a1_4c a1_4),(D.v (.int .i64 a1_5)),(D.v (.int .i64 a1_6)),(D.v (.int .i64 a1_7))])] = Zh7 m a0_0 a0_1 a0_2 a1_0 a1_1 a1_2n a1_2c a1_2 a1_3 a1_4n a1_4c a1_4 a1_5 a1_6 a1_7 := by kernel_rfl
theorem Z115 : Enters Tg 106 := ⟨Tryz.f106,Tryz.func106,by kernel_rfl,by kernel_rfl⟩
theorem Z116 {ds : List D} {d : D} (h : funD Tg Z0 M 4 Zg Tryz.f106 ds = some d) : DataSem Tg 106 ds d := Zo (H := Z0) SpOk.nil mixed (InlOk.cons Tryz.func155 Zw1 InlOk.nil) Tryz.func106 Z115 h
noncomputable def Z1f : List D → Option D
 | [.agg [.v (.int .i64 a0_0),.v (.int .i64 a0_1),.v (.int .i64 a0_2)],.agg [.v (.bool a1_0),.v (.bool a1_1),.list a1_2n a1_2c a1_2,.v (.bool a1_3),.list a1_4n a1_4c a1_4,.v (.int .i64 a1_5),.v (.int .i64 a1_6),.v (.int .i64 a1_7)]] => Zh7 M a0_0 a0_1 a0_2 a1_0 a1_1 a1_2n a1_2c a1_2 a1_3 a1_4n a1_4c a1_4 a1_5 a1_6 a1_7
 | _ => none
theorem Z9l : ∀ ds d,Z1f ds = some d → DataSem Tg 106 ds d := by
 intro ds d h
 unfold Z1f at h
 split at h
 ·exact Z116 ((Zwu M _ _ _ _ _ _ _ _ _ _ _ _ _ _ _).trans h)
 ·cases h
def Z7t : FnH := ⟨[],[]⟩
noncomputable def Zlq : Hints := ⟨[],[],[]⟩
noncomputable def Zh8 (m : Nat) (a0_0 : Int) (a0_1 : Int) (a0_2 : Int) (a1_0 : Bool) (a1_1 : Bool) (a1_2n : Nat) (a1_2c : Option Nat) (a1_2 : List D) (a1_3 : Bool) (a1_4n : Nat) (a1_4c : Option Nat) (a1_4 : List D) (a1_5 : Int) (a1_6 : Int) (a1_7 : Int) : Option D :=
 cond (a1_5 == (0 : Int))
 (some zI)
 (some (D.v (.int .i64 (mm false (IntKind.wrap .i64 (a0_0 - (1 : Int))) (0 : Int)))))
theorem Zwv (m : Nat) (a0_0 : Int) (a0_1 : Int) (a0_2 : Int) (a1_0 : Bool) (a1_1 : Bool) (a1_2n : Nat) (a1_2c : Option Nat) (a1_2 : List D) (a1_3 : Bool) (a1_4n : Nat) (a1_4c : Option Nat) (a1_4 : List D) (a1_5 : Int) (a1_6 : Int) (a1_7 : Int) : funD Tg Zlq m 4 Z7t Tryz.f46 [(D.agg [(D.v (.int .i64 a0_0)),(D.v (.int .i64 a0_1)),(D.v (.int .i64 a0_2))]),(D.agg [(D.v (.bool a1_0)),(D.v (.bool a1_1)),(D.list a1_2n a1_2c a1_2),(D.v (.bool a1_3)),(D.list a1_4n a1_4c a1_4),(D.v (.int .i64 a1_5)),(D.v (.int .i64 a1_6)),(D.v (.int .i64 a1_7))])] = Zh8 m a0_0 a0_1 a0_2 a1_0 a1_1 a1_2n a1_2c a1_2 a1_3 a1_4n a1_4c a1_4 a1_5 a1_6 a1_7 := by kernel_rfl
theorem Z117 : Enters Tg 46 := ⟨Tryz.f46,Tryz.func46,by kernel_rfl,by kernel_rfl⟩
theorem Z118 {ds : List D} {d : D} (h : funD Tg Zlq M 4 Z7t Tryz.f46 ds = some d) : DataSem Tg 46 ds d := Zo (H := Zlq) SpOk.nil mixed InlOk.nil Tryz.func46 Z117 h
noncomputable def Z4m : List D → Option D
 | [.agg [.v (.int .i64 a0_0),.v (.int .i64 a0_1),.v (.int .i64 a0_2)],.agg [.v (.bool a1_0),.v (.bool a1_1),.list a1_2n a1_2c a1_2,.v (.bool a1_3),.list a1_4n a1_4c a1_4,.v (.int .i64 a1_5),.v (.int .i64 a1_6),.v (.int .i64 a1_7)]] => Zh8 M a0_0 a0_1 a0_2 a1_0 a1_1 a1_2n a1_2c a1_2 a1_3 a1_4n a1_4c a1_4 a1_5 a1_6 a1_7
 | _ => none
theorem Zr1 : ∀ ds d,Z4m ds = some d → DataSem Tg 46 ds d := by
 intro ds d h
 unfold Z4m at h
 split at h
 ·exact Z118 ((Zwv M _ _ _ _ _ _ _ _ _ _ _ _ _ _ _).trans h)
 ·cases h
def Z6j : FnH := ⟨[],[]⟩
noncomputable def Zkd : Hints := ⟨[(103,Z4s),(105,Z2b),(109,Z2q)],[],[]⟩
noncomputable def Zr2 (m : Nat) (a0 : Int) (a1_0n : Nat) (a1_0c : Option Nat) (a1_0 : List D) (a1_1 : Bool) (a1_2 : Bool) (a1_3 : Bool) : Option D :=
 (Z2q [(D.v (.int .i64 a0)),(D.v (.int .i64 (1 : Int))),(D.v (.int .i64 (64 : Int)))]).bind fun d1 =>
 (rdB (some d1)).bind fun b2 =>
 cond (!b2)
 (some (D.tup [(D.agg [zI,zI,zI]),(D.v (.int .i64 (1 : Int)))]))
 ((Z4s [(D.agg [(D.list a1_0n a1_0c a1_0),(D.v (.bool a1_1)),(D.v (.bool a1_2)),(D.v (.bool a1_3))])]).bind fun d3 =>
 (rdI .i64 (some d3)).bind fun x4 =>
 cond (x4 != (0 : Int))
 (some (D.tup [(D.agg [zI,zI,zI]),(D.v (.int .i64 x4))]))
 ((Z2b [(D.v (.int .i64 a0)),(D.agg [(D.list a1_0n a1_0c a1_0),(D.v (.bool a1_1)),(D.v (.bool a1_2)),(D.v (.bool a1_3))])]).bind fun d5 =>
 (rdA (some d5)).bind fun c6 =>
 if (List.length c6) = 3 then
 some (D.tup [(D.agg c6),zI])
 else none))
theorem Zuy (m : Nat) (a0 : Int) (a1_0n : Nat) (a1_0c : Option Nat) (a1_0 : List D) (a1_1 : Bool) (a1_2 : Bool) (a1_3 : Bool) : funD Tg Zkd m 4 Z6j Tryz.f52 [(D.v (.int .i64 a0)),(D.agg [(D.list a1_0n a1_0c a1_0),(D.v (.bool a1_1)),(D.v (.bool a1_2)),(D.v (.bool a1_3))])] = Zr2 m a0 a1_0n a1_0c a1_0 a1_1 a1_2 a1_3 := by kernel_rfl
theorem Zyp : Enters Tg 52 := ⟨Tryz.f52,Tryz.func52,by kernel_rfl,by kernel_rfl⟩
theorem Zyq {ds : List D} {d : D} (h : funD Tg Zkd M 4 Z6j Tryz.f52 ds = some d) : DataSem Tg 52 ds d := Zo (H := Zkd) (SpOk.cons Zop (SpOk.cons Z5r (SpOk.cons Zi8 SpOk.nil))) mixed InlOk.nil Tryz.func52 Zyp h
noncomputable def Zdm : List D → Option D
 | [.v (.int .i64 a0),.agg [.list a1_0n a1_0c a1_0,.v (.bool a1_1),.v (.bool a1_2),.v (.bool a1_3)]] => Zr2 M a0 a1_0n a1_0c a1_0 a1_1 a1_2 a1_3
 | _ => none
theorem Zyr : ∀ ds d,Zdm ds = some d → DataSem Tg 52 ds d := by
 intro ds d h
 unfold Zdm at h
 split at h
 ·exact Zyq ((Zuy M _ _ _ _ _ _ _).trans h)
 ·cases h
def Z6k : FnH := ⟨[],[]⟩
noncomputable def Zke : Hints := ⟨[(55,Z7s),(66,Z22)],[],[]⟩
noncomputable def Zr3 (m : Nat) (a0_0 : Int) (a0_1 : Int) (a0_2 : Int) (a1_0 : Bool) (a1_1 : Bool) (a1_2n : Nat) (a1_2c : Option Nat) (a1_2 : List D) (a1_3 : Bool) (a1_4n : Nat) (a1_4c : Option Nat) (a1_4 : List D) (a1_5 : Int) (a1_6 : Int) (a1_7 : Int) : Option D :=
 (Z7s [(D.agg [(D.v (.int .i64 a0_0)),(D.v (.int .i64 a0_1)),(D.v (.int .i64 a0_2))])]).bind fun d1 =>
 (rdI .i64 (some d1)).bind fun x2 =>
 cond (x2 != (0 : Int))
 (some (D.v (.int .i64 x2)))
 ((Z22 [(D.agg [(D.v (.bool a1_0)),(D.v (.bool a1_1)),(D.list a1_2n a1_2c a1_2),(D.v (.bool a1_3)),(D.list a1_4n a1_4c a1_4),(D.v (.int .i64 a1_5)),(D.v (.int .i64 a1_6)),(D.v (.int .i64 a1_7))])]).bind fun d3 =>
 (rdI .i64 (some d3)).bind fun x4 =>
 some (D.v (.int .i64 x4)))
theorem Zuz (m : Nat) (a0_0 : Int) (a0_1 : Int) (a0_2 : Int) (a1_0 : Bool) (a1_1 : Bool) (a1_2n : Nat) (a1_2c : Option Nat) (a1_2 : List D) (a1_3 : Bool) (a1_4n : Nat) (a1_4c : Option Nat) (a1_4 : List D) (a1_5 : Int) (a1_6 : Int) (a1_7 : Int) : funD Tg Zke m 4 Z6k Tryz.f110 [(D.agg [(D.v (.int .i64 a0_0)),(D.v (.int .i64 a0_1)),(D.v (.int .i64 a0_2))]),(D.agg [(D.v (.bool a1_0)),(D.v (.bool a1_1)),(D.list a1_2n a1_2c a1_2),(D.v (.bool a1_3)),(D.list a1_4n a1_4c a1_4),(D.v (.int .i64 a1_5)),(D.v (.int .i64 a1_6)),(D.v (.int .i64 a1_7))])] = Zr3 m a0_0 a0_1 a0_2 a1_0 a1_1 a1_2n a1_2c a1_2 a1_3 a1_4n a1_4c a1_4 a1_5 a1_6 a1_7 := by kernel_rfl
theorem Zys : Enters Tg 110 := ⟨Tryz.f110,Tryz.func110,by kernel_rfl,by kernel_rfl⟩
theorem Zyt {ds : List D} {d : D} (h : funD Tg Zke M 4 Z6k Tryz.f110 ds = some d) : DataSem Tg 110 ds d := Zo (H := Zke) (SpOk.cons Zor (SpOk.cons Zqz SpOk.nil)) mixed InlOk.nil Tryz.func110 Zys h
noncomputable def Zdn : List D → Option D
 | [.agg [.v (.int .i64 a0_0),.v (.int .i64 a0_1),.v (.int .i64 a0_2)],.agg [.v (.bool a1_0),.v (.bool a1_1),.list a1_2n a1_2c a1_2,.v (.bool a1_3),.list a1_4n a1_4c a1_4,.v (.int .i64 a1_5),.v (.int .i64 a1_6),.v (.int .i64 a1_7)]] => Zr3 M a0_0 a0_1 a0_2 a1_0 a1_1 a1_2n a1_2c a1_2 a1_3 a1_4n a1_4c a1_4 a1_5 a1_6 a1_7
 | _ => none
theorem Zyu : ∀ ds d,Zdn ds = some d → DataSem Tg 110 ds d := by
 intro ds d h
 unfold Zdn at h
 split at h
 ·exact Zyt ((Zuz M _ _ _ _ _ _ _ _ _ _ _ _ _ _ _).trans h)
 ·cases h
def Z7u : FnH := ⟨[],[]⟩
noncomputable def Zlr : Hints := ⟨[(46,Z4m),(110,Zdn)],[],[]⟩
noncomputable def Zt0 (m : Nat) (a0_0 : Int) (a0_1 : Int) (a0_2 : Int) (a1_0 : Bool) (a1_1 : Bool) (a1_2n : Nat) (a1_2c : Option Nat) (a1_2 : List D) (a1_3 : Bool) (a1_4n : Nat) (a1_4c : Option Nat) (a1_4 : List D) (a1_5 : Int) (a1_6 : Int) (a1_7 : Int) : Option D :=
 (Zdn [(D.agg [(D.v (.int .i64 a0_0)),(D.v (.int .i64 a0_1)),(D.v (.int .i64 a0_2))]),(D.agg [(D.v (.bool a1_0)),(D.v (.bool a1_1)),(D.list a1_2n a1_2c a1_2),(D.v (.bool a1_3)),(D.list a1_4n a1_4c a1_4),(D.v (.int .i64 a1_5)),(D.v (.int .i64 a1_6)),(D.v (.int .i64 a1_7))])]).bind fun d1 =>
 (rdI .i64 (some d1)).bind fun x2 =>
 cond (x2 != (0 : Int))
 (some (D.tup [zI,(D.v (.int .i64 x2))]))
 ((Z4m [(D.agg [(D.v (.int .i64 a0_0)),(D.v (.int .i64 a0_1)),(D.v (.int .i64 a0_2))]),(D.agg [(D.v (.bool a1_0)),(D.v (.bool a1_1)),(D.list a1_2n a1_2c a1_2),(D.v (.bool a1_3)),(D.list a1_4n a1_4c a1_4),(D.v (.int .i64 a1_5)),(D.v (.int .i64 a1_6)),(D.v (.int .i64 a1_7))])]).bind fun d3 =>
 (rdI .i64 (some d3)).bind fun x4 =>
 some (D.tup [(D.v (.int .i64 x4)),zI]))
theorem Zww (m : Nat) (a0_0 : Int) (a0_1 : Int) (a0_2 : Int) (a1_0 : Bool) (a1_1 : Bool) (a1_2n : Nat) (a1_2c : Option Nat) (a1_2 : List D) (a1_3 : Bool) (a1_4n : Nat) (a1_4c : Option Nat) (a1_4 : List D) (a1_5 : Int) (a1_6 : Int) (a1_7 : Int) : funD Tg Zlr m 4 Z7u Tryz.f54 [(D.agg [(D.v (.int .i64 a0_0)),(D.v (.int .i64 a0_1)),(D.v (.int .i64 a0_2))]),(D.agg [(D.v (.bool a1_0)),(D.v (.bool a1_1)),(D.list a1_2n a1_2c a1_2),(D.v (.bool a1_3)),(D.list a1_4n a1_4c a1_4),(D.v (.int .i64 a1_5)),(D.v (.int .i64 a1_6)),(D.v (.int .i64 a1_7))])] = Zt0 m a0_0 a0_1 a0_2 a1_0 a1_1 a1_2n a1_2c a1_2 a1_3 a1_4n a1_4c a1_4 a1_5 a1_6 a1_7 := by kernel_rfl
theorem Z119 : Enters Tg 54 := ⟨Tryz.f54,Tryz.func54,by kernel_rfl,by kernel_rfl⟩
theorem Z11a {ds : List D} {d : D} (h : funD Tg Zlr M 4 Z7u Tryz.f54 ds = some d) : DataSem Tg 54 ds d := Zo (H := Zlr) (SpOk.cons Zr1 (SpOk.cons Zyu SpOk.nil)) mixed InlOk.nil Tryz.func54 Z119 h
noncomputable def Zkf : List D → Option D
 | [.agg [.v (.int .i64 a0_0),.v (.int .i64 a0_1),.v (.int .i64 a0_2)],.agg [.v (.bool a1_0),.v (.bool a1_1),.list a1_2n a1_2c a1_2,.v (.bool a1_3),.list a1_4n a1_4c a1_4,.v (.int .i64 a1_5),.v (.int .i64 a1_6),.v (.int .i64 a1_7)]] => Zt0 M a0_0 a0_1 a0_2 a1_0 a1_1 a1_2n a1_2c a1_2 a1_3 a1_4n a1_4c a1_4 a1_5 a1_6 a1_7
 | _ => none
theorem Z11b : ∀ ds d,Zkf ds = some d → DataSem Tg 54 ds d := by
 intro ds d h
 unfold Zkf at h
 split at h
 ·exact Z11a ((Zww M _ _ _ _ _ _ _ _ _ _ _ _ _ _ _).trans h)
 ·cases h
def Z6l : FnH := ⟨[],[]⟩
noncomputable def Zkg : Hints := ⟨[(79,Z9k),(103,Z4s)],[],[]⟩
noncomputable def Zes (m : Nat) (a0n : Nat) (a0c : Option Nat) (a0 : List D) (a1_0n : Nat) (a1_0c : Option Nat) (a1_0 : List D) (a1_1 : Bool) (a1_2 : Bool) (a1_3 : Bool) : Option D :=
 (Z9k [(D.list a0n a0c a0)]).bind fun d1 =>
 (rdI .i64 (some d1)).bind fun x2 =>
 cond (x2 != (0 : Int))
 (some (D.v (.int .i64 x2)))
 ((Z4s [(D.agg [(D.list a1_0n a1_0c a1_0),(D.v (.bool a1_1)),(D.v (.bool a1_2)),(D.v (.bool a1_3))])]).bind fun d3 =>
 (rdI .i64 (some d3)).bind fun x4 =>
 some (D.v (.int .i64 x4)))
theorem Zv0 (m : Nat) (a0n : Nat) (a0c : Option Nat) (a0 : List D) (a1_0n : Nat) (a1_0c : Option Nat) (a1_0 : List D) (a1_1 : Bool) (a1_2 : Bool) (a1_3 : Bool) : funD Tg Zkg m 4 Z6l Tryz.f44 [(D.list a0n a0c a0),(D.agg [(D.list a1_0n a1_0c a1_0),(D.v (.bool a1_1)),(D.v (.bool a1_2)),(D.v (.bool a1_3))])] = Zes m a0n a0c a0 a1_0n a1_0c a1_0 a1_1 a1_2 a1_3 := by kernel_rfl
theorem Zyv : Enters Tg 44 := ⟨Tryz.f44,Tryz.func44,by kernel_rfl,by kernel_rfl⟩
theorem Zyw {ds : List D} {d : D} (h : funD Tg Zkg M 4 Z6l Tryz.f44 ds = some d) : DataSem Tg 44 ds d := Zo (H := Zkg) (SpOk.cons Z114 (SpOk.cons Zop SpOk.nil)) mixed InlOk.nil Tryz.func44 Zyv h
noncomputable def Z2v : List D → Option D
 | [.list a0n a0c a0,.agg [.list a1_0n a1_0c a1_0,.v (.bool a1_1),.v (.bool a1_2),.v (.bool a1_3)]] => Zes M a0n a0c a0 a1_0n a1_0c a1_0 a1_1 a1_2 a1_3
 | _ => none
theorem Z7v : ∀ ds d,Z2v ds = some d → DataSem Tg 44 ds d := by
 intro ds d h
 unfold Z2v at h
 split at h
 ·exact Zyw ((Zv0 M _ _ _ _ _ _ _ _ _).trans h)
 ·cases h
def Z2i : FnH := ⟨[(6,⟨(bm 176 29),[],none,none⟩)],[(9,⟨(bm 128 29),[],(some 3),none⟩)]⟩
def Zi0 : FnH := ⟨[],[]⟩
def Z46 : FnH := ⟨[(2,⟨(bm 14353 27),[],(some 1),none⟩)],[]⟩
noncomputable def Z3c : Hints := ⟨[(44,Z2v),(105,Z2b),(106,Z1f)],[(45,Tryz.f45,Zi0),(104,Tryz.f104,Z46)],[]⟩
noncomputable def Z3a (m n0 : Nat) (Z2h : Nat) (Z3b : Option Nat) (Z25 : List D) (Z2p : Int) (Z1q : Int) (Z48 : Nat) (Z49 : Option Nat) (Z4p : List D) (Z57 : Bool) (Z6o : Bool) (Z2l : Bool) (Z2k : Nat) (Z3o : List D) (Z3y : Nat) (Z45 : List D) : Option D :=
 Z26 (bm 14353 27) 6 7 (codeK Tg Z3c.sp ⟨6,[0,1,3,4],true,[]⟩ (inlK Tg Z3c m 3) m Z46 (subc [1,1,0,0] (bodyOf Tryz.f104))) n0 ⟨[(AV.yld 5),Jk,Jk,Jk,(AV.ptr 6 0),Jk,Jk,Jk,Jk,Jk,Jk,(AV.d (D.list Z2h Z3b Z25)),(AV.d (D.v (.int .i64 Z2p))),(AV.d (D.v (.int .i64 Z1q))),Jk,Jk,Jk,Jk,Jk,Jk,Jk,Jk,Jk,Jk,Jk,Jk,Jk],[(Blk.d 4 [(D.list Z48 Z49 Z4p),(D.v (.bool Z57)),(D.v (.bool Z6o)),(D.v (.bool Z2l))]),(Blk.d Z2k Z3o),(Blk.a 1 [(AV.sl 1 0 Z3y (some Z3y) 3)]),(Blk.d 1 [(D.list Z2h Z3b Z25)]),(Blk.d 4 [(D.list Z48 Z49 Z4p),(D.v (.bool Z57)),(D.v (.bool Z6o)),(D.v (.bool Z2l))]),(Blk.loop 0 none [Jk,Jk,Jk,Jk,(AV.d (D.list 0 (some 0) [])),(AV.d zI),Jk,(AV.ptr 2 0),Jk,Jk,Jk,Jk,Jk,Jk,Jk,Jk,Jk,Jk,Jk,Jk,Jk,Jk,Jk,Jk,Jk,Jk,Jk,Jk,Jk] [22,23] (subc [1,1,1,0,1,0,0] (bodyOf Tryz.f8)) (subc [1,1,1,0,1,0,1] (bodyOf Tryz.f8)) Z2i),(Blk.d 3 Z45)]⟩
  (contK Tg Z3c.sp ⟨6,[0,1,3,4],true,[]⟩ (inlK Tg Z3c m 3) m Z46 (endK Tg Tryz.f104 (Zmm 5 29 (contK Tg Z3c.sp ⟨0,[],false,[]⟩ (inlK Tg Z3c m 4) m Z2i (endK Tg Tryz.f8 endV) [.block 0,.code (subc [1,1,1,1] (bodyOf Tryz.f8))]))) [.block 0])
noncomputable def Zpb (m : Nat) (Z3v : Nat) (Z4x : Option Nat) (Z44 : List D) (Z5s : Bool) (Z5q : Bool) (Z81 : Bool) (Z6g : Nat) (Z8e : List D) (Z6y : Nat) (Ze7 : Nat) : Option D :=
 cutK m (codeK Tg Z3c.sp ⟨0,[],false,[]⟩ (inlK Tg Z3c m 4) m Z2i (subc [1,1,1,1] (bodyOf Tryz.f8)) ⟨[Jk,Jk,Jk,Jk,Jk,Jk,Jk,(AV.ptr 2 0),Jk,Jk,Jk,Jk,Jk,Jk,Jk,Jk,Jk,Jk,Jk,Jk,Jk,Jk,Jk,Jk,Jk,Jk,Jk,Jk,Jk],[(Blk.d 4 [(D.list Z3v Z4x Z44),(D.v (.bool Z5s)),(D.v (.bool Z5q)),(D.v (.bool Z81))]),(Blk.d Z6g Z8e),(Blk.a 1 [(AV.sl 1 0 Z6y (some Ze7) 3)])]⟩
  (contK Tg Z3c.sp ⟨0,[],false,[]⟩ (inlK Tg Z3c m 4) m Z2i (endK Tg Tryz.f8 endV) []))
theorem Zv1 (m : Nat) (Z3v : Nat) (Z4x : Option Nat) (Z44 : List D) (Z5s : Bool) (Z5q : Bool) (Z81 : Bool) (Z6g : Nat) (Z8e : List D) (Z6y : Nat) (Ze7 : Nat) : Zpb m Z3v Z4x Z44 Z5s Z5q Z81 Z6g Z8e Z6y Ze7 =
 (if (0 + (Z6y * 3)) ≤ Z6g then
 some (D.tup [(D.list Z6y (some Ze7) (cutL Z6g Z8e 0 (Z6y * 3))),zI])
 else none) := (Z12 m _).trans (by kernel_rfl)
theorem Zei (m n0 : Nat) (Z2h : Nat) (Z3b : Option Nat) (Z25 : List D) (Z2p : Int) (Z1q : Int) (Z48 : Nat) (Z49 : Option Nat) (Z4p : List D) (Z57 : Bool) (Z6o : Bool) (Z2l : Bool) (Z2k : Nat) (Z3o : List D) (Z3y : Nat) (Z45 : List D) : Z3a m (n0 + 1) Z2h Z3b Z25 Z2p Z1q Z48 Z49 Z4p Z57 Z6o Z2l Z2k Z3o Z3y Z45 =
 (cond (decide (Z1q < Z2p))
 (if 0 ≤ Z1q ∧ Z1q < (Z2h : Int) then
 if (((Int.toNat Z1q) * 8) + 8) ≤ (List.length Z25) then
 if (List.length ((List.drop ((Int.toNat Z1q) * 8) Z25).take 8)) = 8 then
 if (List.length Z45) = 3 then
 if 0 ≤ Z1q ∧ Z1q < (Z3y : Int) then
 if (List.length Z45) = 3 then
 if ((0 + ((Int.toNat Z1q) * 3)) + 3) ≤ Z2k then
 (Z1f [(D.agg Z45),(D.agg ((List.drop ((Int.toNat Z1q) * 8) Z25).take 8))]).bind fun d9 =>
 (rdA (some d9)).bind fun c10 =>
 if (List.length c10) = 3 then
 Z3a m n0 Z2h Z3b Z25 Z2p (IntKind.wrap .i64 (Z1q + (1 : Int))) Z48 Z49 Z4p Z57 Z6o Z2l Z2k (putL Z2k Z3o (0 + ((Int.toNat Z1q) * 3)) 3 Z45) Z3y c10
 else none
 else none
 else none
 else none
 else none
 else none
 else none
 else none)
 (Zpb m Z48 Z49 Z4p Z57 Z6o Z2l Z2k Z3o Z3y Z3y)) := by kernel_rfl
noncomputable def Ziy (m : Nat) (a0n : Nat) (a0c : Option Nat) (a0 : List D) (a1_0n : Nat) (a1_0c : Option Nat) (a1_0 : List D) (a1_1 : Bool) (a1_2 : Bool) (a1_3 : Bool) : Option D :=
 (Z2v [(D.list a0n a0c a0),(D.agg [(D.list a1_0n a1_0c a1_0),(D.v (.bool a1_1)),(D.v (.bool a1_2)),(D.v (.bool a1_3))])]).bind fun d1 =>
 (rdI .i64 (some d1)).bind fun x2 =>
 cond (x2 != (0 : Int))
 (some (D.tup [(D.list 0 (some 0) []),(D.v (.int .i64 x2))]))
 (if 0 ≤ (a0n : Int) ∧ (a0n : Int) ≤ (a0n : Int) ∧ Z4y (Int.toNat (a0n : Int)) 24 then
 (Z2b [(D.v (.int .i64 (a0n : Int))),(D.agg [(D.list a1_0n a1_0c a1_0),(D.v (.bool a1_1)),(D.v (.bool a1_2)),(D.v (.bool a1_3))])]).bind fun d3 =>
 (rdA (some d3)).bind fun c4 =>
 if (List.length c4) = 3 then
 Z3a m m a0n a0c a0 (a0n : Int) (0 : Int) a1_0n a1_0c a1_0 a1_1 a1_2 a1_3 ((Int.toNat (a0n : Int)) * 3) (List.flatten (List.replicate (Int.toNat (a0n : Int)) [zI,zI,zI])) (Int.toNat (a0n : Int)) c4
 else none
 else none)
theorem Zyx (m : Nat) (a0n : Nat) (a0c : Option Nat) (a0 : List D) (a1_0n : Nat) (a1_0c : Option Nat) (a1_0 : List D) (a1_1 : Bool) (a1_2 : Bool) (a1_3 : Bool) : funD Tg Z3c m 4 Z2i Tryz.f8 [(D.list a0n a0c a0),(D.agg [(D.list a1_0n a1_0c a1_0),(D.v (.bool a1_1)),(D.v (.bool a1_2)),(D.v (.bool a1_3))])] = Ziy m a0n a0c a0 a1_0n a1_0c a1_0 a1_1 a1_2 a1_3 := by kernel_rfl
theorem Z13z : Enters Tg 8 := ⟨Tryz.f8,Tryz.func8,by kernel_rfl,by kernel_rfl⟩
theorem Z140 {ds : List D} {d : D} (h : funD Tg Z3c M 4 Z2i Tryz.f8 ds = some d) : DataSem Tg 8 ds d := Zo (H := Z3c) (SpOk.cons Z7v (SpOk.cons Z5r (SpOk.cons Z9l SpOk.nil))) mixed (InlOk.cons Tryz.func45 Za5 (InlOk.cons Tryz.func104 Z7b InlOk.nil)) Tryz.func8 Z13z h
noncomputable def Z4c : List D → Option D
 | [.list a0n a0c a0,.agg [.list a1_0n a1_0c a1_0,.v (.bool a1_1),.v (.bool a1_2),.v (.bool a1_3)]] => Ziy M a0n a0c a0 a1_0n a1_0c a1_0 a1_1 a1_2 a1_3
 | _ => none
theorem Zls : ∀ ds d,Z4c ds = some d → DataSem Tg 8 ds d := by
 intro ds d h
 unfold Z4c at h
 split at h
 ·exact Z140 ((Zyx M _ _ _ _ _ _ _ _ _).trans h)
 ·cases h
def Z20 : FnH := ⟨[(6,⟨(bm 180 28),[],none,none⟩)],[(9,⟨(bm 128 28),[],(some 3),none⟩)]⟩
def Zg5 : FnH := ⟨[],[]⟩
def Z3z : FnH := ⟨[(2,⟨(bm 14353 27),[],(some 1),none⟩)],[]⟩
noncomputable def Z2j : Hints := ⟨[(44,Z2v),(46,Z4m),(105,Z2b),(106,Z1f)],[(45,Tryz.f45,Zg5),(104,Tryz.f104,Z3z)],[]⟩
noncomputable def Z31 (m n0 : Nat) (Z2h : Nat) (Z3b : Option Nat) (Z25 : List D) (Z2p : Int) (Z1q : Int) (Z48 : Nat) (Z49 : Option Nat) (Z4p : List D) (Z57 : Bool) (Z6o : Bool) (Z2l : Bool) (Z2k : Int) (Z3o : List D) : Option D :=
 Z26 (bm 14353 27) 6 7 (codeK Tg Z2j.sp ⟨6,[0,1,2,3,4],true,[]⟩ (inlK Tg Z2j m 3) m Z3z (subc [1,1,0,0] (bodyOf Tryz.f104))) n0 ⟨[(AV.yld 5),Jk,Jk,Jk,(AV.ptr 6 0),Jk,Jk,Jk,Jk,Jk,Jk,(AV.d (D.list Z2h Z3b Z25)),(AV.d (D.v (.int .i64 Z2p))),(AV.d (D.v (.int .i64 Z1q))),Jk,Jk,Jk,Jk,Jk,Jk,Jk,Jk,Jk,Jk,Jk,Jk,Jk],[(Blk.d 1 [(D.list Z2h Z3b Z25)]),(Blk.d 4 [(D.list Z48 Z49 Z4p),(D.v (.bool Z57)),(D.v (.bool Z6o)),(D.v (.bool Z2l))]),(Blk.d 1 [(D.v (.int .i64 Z2k))]),(Blk.d 1 [(D.list Z2h Z3b Z25)]),(Blk.d 4 [(D.list Z48 Z49 Z4p),(D.v (.bool Z57)),(D.v (.bool Z6o)),(D.v (.bool Z2l))]),(Blk.loop 0 none [Jk,Jk,(AV.ptr 0 0),Jk,(AV.d zI),(AV.d zI),Jk,(AV.ptr 2 0),Jk,Jk,Jk,Jk,Jk,Jk,Jk,Jk,Jk,Jk,Jk,Jk,Jk,Jk,Jk,Jk,Jk,Jk,Jk,Jk] [19,20] (subc [1,1,1,0,1,0,0] (bodyOf Tryz.f9)) (subc [1,1,1,0,1,0,1] (bodyOf Tryz.f9)) Z20),(Blk.d 3 Z3o)]⟩
  (contK Tg Z2j.sp ⟨6,[0,1,2,3,4],true,[]⟩ (inlK Tg Z2j m 3) m Z3z (endK Tg Tryz.f104 (Zmm 5 28 (contK Tg Z2j.sp ⟨0,[],false,[]⟩ (inlK Tg Z2j m 4) m Z20 (endK Tg Tryz.f9 endV) [.block 0,.code (subc [1,1,1,1] (bodyOf Tryz.f9))]))) [.block 0])
noncomputable def Zlt (m : Nat) (Z3v : Nat) (Z4x : Option Nat) (Z44 : List D) (Z5s : Nat) (Z5q : Option Nat) (Z81 : List D) (Z6g : Bool) (Z8e : Bool) (Z6y : Bool) (Ze7 : Int) : Option D :=
 cutK m (codeK Tg Z2j.sp ⟨0,[],false,[]⟩ (inlK Tg Z2j m 4) m Z20 (subc [1,1,1,1] (bodyOf Tryz.f9)) ⟨[Jk,Jk,Jk,Jk,Jk,Jk,Jk,(AV.ptr 2 0),Jk,Jk,Jk,Jk,Jk,Jk,Jk,Jk,Jk,Jk,Jk,Jk,Jk,Jk,Jk,Jk,Jk,Jk,Jk,Jk],[(Blk.d 1 [(D.list Z3v Z4x Z44)]),(Blk.d 4 [(D.list Z5s Z5q Z81),(D.v (.bool Z6g)),(D.v (.bool Z8e)),(D.v (.bool Z6y))]),(Blk.d 1 [(D.v (.int .i64 Ze7))])]⟩
  (contK Tg Z2j.sp ⟨0,[],false,[]⟩ (inlK Tg Z2j m 4) m Z20 (endK Tg Tryz.f9 endV) []))
theorem Zt1 (m : Nat) (Z3v : Nat) (Z4x : Option Nat) (Z44 : List D) (Z5s : Nat) (Z5q : Option Nat) (Z81 : List D) (Z6g : Bool) (Z8e : Bool) (Z6y : Bool) (Ze7 : Int) : Zlt m Z3v Z4x Z44 Z5s Z5q Z81 Z6g Z8e Z6y Ze7 =
 (some (D.tup [(D.v (.int .i64 Ze7)),zI])) := (Z12 m _).trans (by kernel_rfl)
theorem Zdo (m n0 : Nat) (Z2h : Nat) (Z3b : Option Nat) (Z25 : List D) (Z2p : Int) (Z1q : Int) (Z48 : Nat) (Z49 : Option Nat) (Z4p : List D) (Z57 : Bool) (Z6o : Bool) (Z2l : Bool) (Z2k : Int) (Z3o : List D) : Z31 m (n0 + 1) Z2h Z3b Z25 Z2p Z1q Z48 Z49 Z4p Z57 Z6o Z2l Z2k Z3o =
 (cond (decide (Z1q < Z2p))
 (if 0 ≤ Z1q ∧ Z1q < (Z2h : Int) then
 if (((Int.toNat Z1q) * 8) + 8) ≤ (List.length Z25) then
 if (List.length ((List.drop ((Int.toNat Z1q) * 8) Z25).take 8)) = 8 then
 if (List.length Z3o) = 3 then
 if 0 ≤ Z1q ∧ Z1q < (Z2h : Int) then
 if (((Int.toNat Z1q) * 8) + 8) ≤ (List.length Z25) then
 (Z4m [(D.agg Z3o),(D.agg ((List.drop ((Int.toNat Z1q) * 8) Z25).take 8))]).bind fun d13 =>
 (rdI .i64 (some d13)).bind fun x14 =>
 (Z1f [(D.agg Z3o),(D.agg ((List.drop ((Int.toNat Z1q) * 8) Z25).take 8))]).bind fun d15 =>
 (rdA (some d15)).bind fun c16 =>
 if (List.length c16) = 3 then
 Z31 m n0 Z2h Z3b Z25 Z2p (IntKind.wrap .i64 (Z1q + (1 : Int))) Z48 Z49 Z4p Z57 Z6o Z2l x14 c16
 else none
 else none
 else none
 else none
 else none
 else none
 else none)
 (Zlt m Z2h Z3b Z25 Z48 Z49 Z4p Z57 Z6o Z2l Z2k)) := by kernel_rfl
noncomputable def Zet (m : Nat) (a0n : Nat) (a0c : Option Nat) (a0 : List D) (a1_0n : Nat) (a1_0c : Option Nat) (a1_0 : List D) (a1_1 : Bool) (a1_2 : Bool) (a1_3 : Bool) : Option D :=
 (Z2v [(D.list a0n a0c a0),(D.agg [(D.list a1_0n a1_0c a1_0),(D.v (.bool a1_1)),(D.v (.bool a1_2)),(D.v (.bool a1_3))])]).bind fun d1 =>
 (rdI .i64 (some d1)).bind fun x2 =>
 cond (x2 != (0 : Int))
 (some (D.tup [zI,(D.v (.int .i64 x2))]))
 ((Z2b [(D.v (.int .i64 (a0n : Int))),(D.agg [(D.list a1_0n a1_0c a1_0),(D.v (.bool a1_1)),(D.v (.bool a1_2)),(D.v (.bool a1_3))])]).bind fun d3 =>
 (rdA (some d3)).bind fun c4 =>
 if (List.length c4) = 3 then
 Z31 m m a0n a0c a0 (a0n : Int) (0 : Int) a1_0n a1_0c a1_0 a1_1 a1_2 a1_3 (0 : Int) c4
 else none)
theorem Zv2 (m : Nat) (a0n : Nat) (a0c : Option Nat) (a0 : List D) (a1_0n : Nat) (a1_0c : Option Nat) (a1_0 : List D) (a1_1 : Bool) (a1_2 : Bool) (a1_3 : Bool) : funD Tg Z2j m 4 Z20 Tryz.f9 [(D.list a0n a0c a0),(D.agg [(D.list a1_0n a1_0c a1_0),(D.v (.bool a1_1)),(D.v (.bool a1_2)),(D.v (.bool a1_3))])] = Zet m a0n a0c a0 a1_0n a1_0c a1_0 a1_1 a1_2 a1_3 := by kernel_rfl
theorem Zyy : Enters Tg 9 := ⟨Tryz.f9,Tryz.func9,by kernel_rfl,by kernel_rfl⟩
theorem Zyz {ds : List D} {d : D} (h : funD Tg Z2j M 4 Z20 Tryz.f9 ds = some d) : DataSem Tg 9 ds d := Zo (H := Z2j) (SpOk.cons Z7v (SpOk.cons Zr1 (SpOk.cons Z5r (SpOk.cons Z9l SpOk.nil)))) mixed (InlOk.cons Tryz.func45 Za5 (InlOk.cons Tryz.func104 Z7b InlOk.nil)) Tryz.func9 Zyy h
noncomputable def Z18 : List D → Option D
 | [.list a0n a0c a0,.agg [.list a1_0n a1_0c a1_0,.v (.bool a1_1),.v (.bool a1_2),.v (.bool a1_3)]] => Zet M a0n a0c a0 a1_0n a1_0c a1_0 a1_1 a1_2 a1_3
 | _ => none
theorem Zik : ∀ ds d,Z18 ds = some d → DataSem Tg 9 ds d := by
 intro ds d h
 unfold Z18 at h
 split at h
 ·exact Zyz ((Zv2 M _ _ _ _ _ _ _ _ _).trans h)
 ·cases h
def Z2c : FnH := ⟨[(7,⟨(bm 240 46),[],none,none⟩)],[(13,⟨(bm 112 46),[],(some 4),none⟩)]⟩
def Zh9 : FnH := ⟨[],[]⟩
def Z43 : FnH := ⟨[(2,⟨(bm 14353 27),[],(some 1),none⟩)],[]⟩
def Zha : FnH := ⟨[],[]⟩
noncomputable def Z2w : Hints := ⟨[(44,Z2v),(105,Z2b),(106,Z1f)],[(45,Tryz.f45,Zh9),(104,Tryz.f104,Z43),(47,Tryz.f47,Zha)],[]⟩
noncomputable def Zp (m n0 : Nat) (Z2h : Nat) (Z3b : Option Nat) (Z25 : List D) (Z2p : Int) (Z1q : Int) (Z48 : Nat) (Z49 : Option Nat) (Z4p : List D) (Z57 : Bool) (Z6o : Bool) (Z2l : Bool) (Z2k : Int) (Z3o : Int) (Z3y : Int) (Z45 : List D) : Option D :=
 Z26 (bm 14353 27) 7 8 (codeK Tg Z2w.sp ⟨7,[0,1,2,3,4,5],true,[]⟩ (inlK Tg Z2w m 3) m Z43 (subc [1,1,0,0] (bodyOf Tryz.f104))) n0 ⟨[(AV.yld 6),Jk,Jk,Jk,(AV.ptr 7 0),Jk,Jk,Jk,Jk,Jk,Jk,(AV.d (D.list Z2h Z3b Z25)),(AV.d (D.v (.int .i64 Z2p))),(AV.d (D.v (.int .i64 Z1q))),Jk,Jk,Jk,Jk,Jk,Jk,Jk,Jk,Jk,Jk,Jk,Jk,Jk],[(Blk.d 4 [(D.list Z48 Z49 Z4p),(D.v (.bool Z57)),(D.v (.bool Z6o)),(D.v (.bool Z2l))]),(Blk.d 1 [(D.v (.int .i64 Z2k))]),(Blk.d 1 [(D.v (.int .i64 Z3o))]),(Blk.d 1 [(D.v (.int .i64 Z3y))]),(Blk.d 1 [(D.list Z2h Z3b Z25)]),(Blk.d 4 [(D.list Z48 Z49 Z4p),(D.v (.bool Z57)),(D.v (.bool Z6o)),(D.v (.bool Z2l))]),(Blk.loop 0 none [Jk,Jk,Jk,Jk,(AV.ptr 1 0),(AV.ptr 2 0),(AV.ptr 3 0),(AV.d zI),Jk,Jk,Jk,Jk,Jk,Jk,Jk,Jk,Jk,Jk,Jk,Jk,Jk,Jk,Jk,Jk,Jk,Jk,Jk,Jk,Jk,Jk,Jk,Jk,Jk,Jk,Jk,Jk,Jk,Jk,Jk,Jk,Jk,Jk,Jk,Jk,Jk,Jk] [28,29] (subc [1,1,1,1,0,1,0,0] (bodyOf Tryz.f10)) (subc [1,1,1,1,0,1,0,1] (bodyOf Tryz.f10)) Z2c),(Blk.d 3 Z45)]⟩
  (contK Tg Z2w.sp ⟨7,[0,1,2,3,4,5],true,[]⟩ (inlK Tg Z2w m 3) m Z43 (endK Tg Tryz.f104 (Zmm 6 46 (contK Tg Z2w.sp ⟨0,[],false,[]⟩ (inlK Tg Z2w m 4) m Z2c (endK Tg Tryz.f10 endV) [.block 0,.code (subc [1,1,1,1,1] (bodyOf Tryz.f10))]))) [.block 0])
noncomputable def Zlu (m : Nat) (Z3v : Nat) (Z4x : Option Nat) (Z44 : List D) (Z5s : Bool) (Z5q : Bool) (Z81 : Bool) (Z6g : Int) (Z8e : Int) (Z6y : Int) : Option D :=
 cutK m (codeK Tg Z2w.sp ⟨0,[],false,[]⟩ (inlK Tg Z2w m 4) m Z2c (subc [1,1,1,1,1] (bodyOf Tryz.f10)) ⟨[Jk,Jk,Jk,Jk,(AV.ptr 1 0),(AV.ptr 2 0),(AV.ptr 3 0),Jk,Jk,Jk,Jk,Jk,Jk,Jk,Jk,Jk,Jk,Jk,Jk,Jk,Jk,Jk,Jk,Jk,Jk,Jk,Jk,Jk,Jk,Jk,Jk,Jk,Jk,Jk,Jk,Jk,Jk,Jk,Jk,Jk,Jk,Jk,Jk,Jk,Jk,Jk],[(Blk.d 4 [(D.list Z3v Z4x Z44),(D.v (.bool Z5s)),(D.v (.bool Z5q)),(D.v (.bool Z81))]),(Blk.d 1 [(D.v (.int .i64 Z6g))]),(Blk.d 1 [(D.v (.int .i64 Z8e))]),(Blk.d 1 [(D.v (.int .i64 Z6y))])]⟩
  (contK Tg Z2w.sp ⟨0,[],false,[]⟩ (inlK Tg Z2w m 4) m Z2c (endK Tg Tryz.f10 endV) []))
theorem Zt2 (m : Nat) (Z3v : Nat) (Z4x : Option Nat) (Z44 : List D) (Z5s : Bool) (Z5q : Bool) (Z81 : Bool) (Z6g : Int) (Z8e : Int) (Z6y : Int) : Zlu m Z3v Z4x Z44 Z5s Z5q Z81 Z6g Z8e Z6y =
 (some (D.tup [(D.v (.int .i64 Z6g)),(D.v (.int .i64 Z8e)),(D.v (.int .i64 Z6y)),zI])) := (Z12 m _).trans (by kernel_rfl)
theorem Ze8 (m n0 : Nat) (Z2h : Nat) (Z3b : Option Nat) (Z25 : List D) (Z2p : Int) (Z1q : Int) (Z48 : Nat) (Z49 : Option Nat) (Z4p : List D) (Z57 : Bool) (Z6o : Bool) (Z2l : Bool) (Z2k : Int) (Z3o : Int) (Z3y : Int) (Z45 : List D) : Zp m (n0 + 1) Z2h Z3b Z25 Z2p Z1q Z48 Z49 Z4p Z57 Z6o Z2l Z2k Z3o Z3y Z45 =
 (cond (decide (Z1q < Z2p))
 (if 0 ≤ Z1q ∧ Z1q < (Z2h : Int) then
 if (((Int.toNat Z1q) * 8) + 8) ≤ (List.length Z25) then
 if (List.length ((List.drop ((Int.toNat Z1q) * 8) Z25).take 8)) = 8 then
 if (List.length Z45) = 3 then
 (rdI .i64 Z45[0]?).bind fun x51 =>
 cond (x51 == (0 : Int))
 ((rdI .i64 Z45[1]?).bind fun x52 =>
 cond (x52 == (0 : Int))
 ((rdI .i64 Z45[2]?).bind fun x53 =>
 cond (x53 == (0 : Int))
 ((Z1f [(D.agg Z45),(D.agg ((List.drop ((Int.toNat Z1q) * 8) Z25).take 8))]).bind fun d54 =>
 (rdA (some d54)).bind fun c55 =>
 if (List.length c55) = 3 then
 Zp m n0 Z2h Z3b Z25 Z2p (IntKind.wrap .i64 (Z1q + (1 : Int))) Z48 Z49 Z4p Z57 Z6o Z2l (mm true Z2k (IntKind.wrap .i64 (Z1q + (1 : Int)))) (mm true Z3o (IntKind.wrap .i64 (Z1q + (1 : Int)))) (mm true Z3y (IntKind.wrap .i64 (Z1q + (1 : Int)))) c55
 else none)
 ((Z1f [(D.agg Z45),(D.agg ((List.drop ((Int.toNat Z1q) * 8) Z25).take 8))]).bind fun d56 =>
 (rdA (some d56)).bind fun c57 =>
 if (List.length c57) = 3 then
 Zp m n0 Z2h Z3b Z25 Z2p (IntKind.wrap .i64 (Z1q + (1 : Int))) Z48 Z49 Z4p Z57 Z6o Z2l (mm true Z2k (IntKind.wrap .i64 (Z1q + (1 : Int)))) (mm true Z3o (IntKind.wrap .i64 (Z1q + (1 : Int)))) Z3y c57
 else none))
 ((rdI .i64 Z45[2]?).bind fun x58 =>
 cond (x58 == (0 : Int))
 ((Z1f [(D.agg Z45),(D.agg ((List.drop ((Int.toNat Z1q) * 8) Z25).take 8))]).bind fun d59 =>
 (rdA (some d59)).bind fun c60 =>
 if (List.length c60) = 3 then
 Zp m n0 Z2h Z3b Z25 Z2p (IntKind.wrap .i64 (Z1q + (1 : Int))) Z48 Z49 Z4p Z57 Z6o Z2l (mm true Z2k (IntKind.wrap .i64 (Z1q + (1 : Int)))) Z3o (mm true Z3y (IntKind.wrap .i64 (Z1q + (1 : Int)))) c60
 else none)
 ((Z1f [(D.agg Z45),(D.agg ((List.drop ((Int.toNat Z1q) * 8) Z25).take 8))]).bind fun d61 =>
 (rdA (some d61)).bind fun c62 =>
 if (List.length c62) = 3 then
 Zp m n0 Z2h Z3b Z25 Z2p (IntKind.wrap .i64 (Z1q + (1 : Int))) Z48 Z49 Z4p Z57 Z6o Z2l (mm true Z2k (IntKind.wrap .i64 (Z1q + (1 : Int)))) Z3o Z3y c62
 else none)))
 ((rdI .i64 Z45[1]?).bind fun x63 =>
 cond (x63 == (0 : Int))
 ((rdI .i64 Z45[2]?).bind fun x64 =>
 cond (x64 == (0 : Int))
 ((Z1f [(D.agg Z45),(D.agg ((List.drop ((Int.toNat Z1q) * 8) Z25).take 8))]).bind fun d65 =>
 (rdA (some d65)).bind fun c66 =>
 if (List.length c66) = 3 then
 Zp m n0 Z2h Z3b Z25 Z2p (IntKind.wrap .i64 (Z1q + (1 : Int))) Z48 Z49 Z4p Z57 Z6o Z2l Z2k (mm true Z3o (IntKind.wrap .i64 (Z1q + (1 : Int)))) (mm true Z3y (IntKind.wrap .i64 (Z1q + (1 : Int)))) c66
 else none)
 ((Z1f [(D.agg Z45),(D.agg ((List.drop ((Int.toNat Z1q) * 8) Z25).take 8))]).bind fun d67 =>
 (rdA (some d67)).bind fun c68 =>
 if (List.length c68) = 3 then
 Zp m n0 Z2h Z3b Z25 Z2p (IntKind.wrap .i64 (Z1q + (1 : Int))) Z48 Z49 Z4p Z57 Z6o Z2l Z2k (mm true Z3o (IntKind.wrap .i64 (Z1q + (1 : Int)))) Z3y c68
 else none))
 ((rdI .i64 Z45[2]?).bind fun x69 =>
 cond (x69 == (0 : Int))
 ((Z1f [(D.agg Z45),(D.agg ((List.drop ((Int.toNat Z1q) * 8) Z25).take 8))]).bind fun d70 =>
 (rdA (some d70)).bind fun c71 =>
 if (List.length c71) = 3 then
 Zp m n0 Z2h Z3b Z25 Z2p (IntKind.wrap .i64 (Z1q + (1 : Int))) Z48 Z49 Z4p Z57 Z6o Z2l Z2k Z3o (mm true Z3y (IntKind.wrap .i64 (Z1q + (1 : Int)))) c71
 else none)
 ((Z1f [(D.agg Z45),(D.agg ((List.drop ((Int.toNat Z1q) * 8) Z25).take 8))]).bind fun d72 =>
 (rdA (some d72)).bind fun c73 =>
 if (List.length c73) = 3 then
 Zp m n0 Z2h Z3b Z25 Z2p (IntKind.wrap .i64 (Z1q + (1 : Int))) Z48 Z49 Z4p Z57 Z6o Z2l Z2k Z3o Z3y c73
 else none)))
 else none
 else none
 else none
 else none)
 (Zlu m Z48 Z49 Z4p Z57 Z6o Z2l Z2k Z3o Z3y)) := by kernel_rfl
noncomputable def Zhb (m : Nat) (a0n : Nat) (a0c : Option Nat) (a0 : List D) (a1_0n : Nat) (a1_0c : Option Nat) (a1_0 : List D) (a1_1 : Bool) (a1_2 : Bool) (a1_3 : Bool) : Option D :=
 (Z2v [(D.list a0n a0c a0),(D.agg [(D.list a1_0n a1_0c a1_0),(D.v (.bool a1_1)),(D.v (.bool a1_2)),(D.v (.bool a1_3))])]).bind fun d1 =>
 (rdI .i64 (some d1)).bind fun x2 =>
 cond (x2 != (0 : Int))
 (some (D.tup [zI,zI,zI,(D.v (.int .i64 x2))]))
 ((Z2b [(D.v (.int .i64 (a0n : Int))),(D.agg [(D.list a1_0n a1_0c a1_0),(D.v (.bool a1_1)),(D.v (.bool a1_2)),(D.v (.bool a1_3))])]).bind fun d3 =>
 (rdA (some d3)).bind fun c4 =>
 if (List.length c4) = 3 then
 Zp m m a0n a0c a0 (a0n : Int) (0 : Int) a1_0n a1_0c a1_0 a1_1 a1_2 a1_3 (IntKind.wrap .i64 ((a0n : Int) + (1 : Int))) (IntKind.wrap .i64 ((a0n : Int) + (1 : Int))) (IntKind.wrap .i64 ((a0n : Int) + (1 : Int))) c4
 else none)
theorem Zwx (m : Nat) (a0n : Nat) (a0c : Option Nat) (a0 : List D) (a1_0n : Nat) (a1_0c : Option Nat) (a1_0 : List D) (a1_1 : Bool) (a1_2 : Bool) (a1_3 : Bool) : funD Tg Z2w m 4 Z2c Tryz.f10 [(D.list a0n a0c a0),(D.agg [(D.list a1_0n a1_0c a1_0),(D.v (.bool a1_1)),(D.v (.bool a1_2)),(D.v (.bool a1_3))])] = Zhb m a0n a0c a0 a1_0n a1_0c a1_0 a1_1 a1_2 a1_3 := by kernel_rfl
theorem Z11c : Enters Tg 10 := ⟨Tryz.f10,Tryz.func10,by kernel_rfl,by kernel_rfl⟩
theorem Z11d {ds : List D} {d : D} (h : funD Tg Z2w M 4 Z2c Tryz.f10 ds = some d) : DataSem Tg 10 ds d := Zo (H := Z2w) (SpOk.cons Z7v (SpOk.cons Z5r (SpOk.cons Z9l SpOk.nil))) mixed (InlOk.cons Tryz.func45 Za5 (InlOk.cons Tryz.func104 Z7b (InlOk.cons Tryz.func47 Zw2 InlOk.nil))) Tryz.func10 Z11c h
noncomputable def Z1g : List D → Option D
 | [.list a0n a0c a0,.agg [.list a1_0n a1_0c a1_0,.v (.bool a1_1),.v (.bool a1_2),.v (.bool a1_3)]] => Zhb M a0n a0c a0 a1_0n a1_0c a1_0 a1_1 a1_2 a1_3
 | _ => none
theorem Zkh : ∀ ds d,Z1g ds = some d → DataSem Tg 10 ds d := by
 intro ds d h
 unfold Z1g at h
 split at h
 ·exact Z11d ((Zwx M _ _ _ _ _ _ _ _ _).trans h)
 ·cases h
def Z2x : FnH := ⟨[],[(4,⟨(bm 56 23),[],(some 3),none⟩),(6,⟨(bm 56 23),[],(some 3),none⟩)]⟩
noncomputable def Z4d : Hints := ⟨[],[],[]⟩
noncomputable def Zki (m : Nat) (Z3v : Nat) (Z4x : Option Nat) (Z44 : List D) (Z5s : Bool) (Z5q : Bool) (Z81 : Bool) (Z6g : Int) (Z8e : Int) (Z6y : Int) (Ze7 : Int) (Z5i : Int) (Z56 : Int) : Option D :=
 cutK m (codeK Tg Z4d.sp ⟨0,[],false,[]⟩ (inlK Tg Z4d m 4) m Z2x (subc [1,1,1] (bodyOf Tryz.f50)) ⟨[Jk,Jk,Jk,(AV.ptr 0 0),(AV.ptr 1 0),(AV.ptr 2 0),Jk,Jk,Jk,Jk,Jk,Jk,Jk,Jk,Jk,Jk,Jk,Jk,Jk,Jk,Jk,Jk,Jk],[(Blk.d 4 [(D.list Z3v Z4x Z44),(D.v (.bool Z5s)),(D.v (.bool Z5q)),(D.v (.bool Z81))]),(Blk.d 3 [(D.v (.int .i64 Z6g)),(D.v (.int .i64 Z8e)),(D.v (.int .i64 Z6y))]),(Blk.d 3 [(D.v (.int .i64 Ze7)),(D.v (.int .i64 Z5i)),(D.v (.int .i64 Z56))])]⟩
  (contK Tg Z4d.sp ⟨0,[],false,[]⟩ (inlK Tg Z4d m 4) m Z2x (endK Tg Tryz.f50 endV) []))
noncomputable def Zkj (m : Nat) (Zfi : Nat) (Zjz : Option Nat) (Zkq : List D) (Zlm : Bool) (Zne : Bool) (Zk0 : Bool) (Zm8 : Int) (Znf : Int) (Zmd : Int) (Zpk : Int) (Zbr : Int) (Zh1 : Int) : Option D :=
 cutK m (codeK Tg Z4d.sp ⟨0,[],false,[]⟩ (inlK Tg Z4d m 4) m Z2x (subc [1,1,1,1] (bodyOf Tryz.f50)) ⟨[Jk,Jk,Jk,(AV.ptr 0 0),(AV.ptr 1 0),(AV.ptr 2 0),Jk,Jk,Jk,Jk,Jk,Jk,Jk,Jk,Jk,Jk,Jk,Jk,Jk,Jk,Jk,Jk,Jk],[(Blk.d 4 [(D.list Zfi Zjz Zkq),(D.v (.bool Zlm)),(D.v (.bool Zne)),(D.v (.bool Zk0))]),(Blk.d 3 [(D.v (.int .i64 Zm8)),(D.v (.int .i64 Znf)),(D.v (.int .i64 Zmd))]),(Blk.d 3 [(D.v (.int .i64 Zpk)),(D.v (.int .i64 Zbr)),(D.v (.int .i64 Zh1))])]⟩
  (contK Tg Z4d.sp ⟨0,[],false,[]⟩ (inlK Tg Z4d m 4) m Z2x (endK Tg Tryz.f50 endV) []))
theorem Zaa (m : Nat) (Zfi : Nat) (Zjz : Option Nat) (Zkq : List D) (Zlm : Bool) (Zne : Bool) (Zk0 : Bool) (Zm8 : Int) (Znf : Int) (Zmd : Int) (Zpk : Int) (Zbr : Int) (Zh1 : Int) : Zkj m Zfi Zjz Zkq Zlm Zne Zk0 Zm8 Znf Zmd Zpk Zbr Zh1 =
 (cond Zk0
 (some (D.agg [(D.v (.int .i64 Zpk)),(D.v (.int .i64 Zbr)),zI]))
 (some (D.agg [(D.v (.int .i64 Zpk)),(D.v (.int .i64 Zbr)),(D.v (.int .i64 Zh1))]))) := (Z12 m _).trans (by kernel_rfl)
theorem Zni (m : Nat) (Z3v : Nat) (Z4x : Option Nat) (Z44 : List D) (Z5s : Bool) (Z5q : Bool) (Z81 : Bool) (Z6g : Int) (Z8e : Int) (Z6y : Int) (Ze7 : Int) (Z5i : Int) (Z56 : Int) : Zki m Z3v Z4x Z44 Z5s Z5q Z81 Z6g Z8e Z6y Ze7 Z5i Z56 =
 (cond Z5q
 (Zkj m Z3v Z4x Z44 Z5s Z5q Z81 Z6g Z8e Z6y Ze7 (0 : Int) Z56)
 (Zkj m Z3v Z4x Z44 Z5s Z5q Z81 Z6g Z8e Z6y Ze7 Z5i Z56)) := (Z12 m _).trans (by kernel_rfl)
noncomputable def Zky (m : Nat) (a0 : Int) (a1_0n : Nat) (a1_0c : Option Nat) (a1_0 : List D) (a1_1 : Bool) (a1_2 : Bool) (a1_3 : Bool) : Option D :=
 cond a1_1
 (Zki m a1_0n a1_0c a1_0 a1_1 a1_2 a1_3 (0 : Int) (0 : Int) (0 : Int) (0 : Int) (IntKind.wrap .i64 (a0 + (1 : Int))) (IntKind.wrap .i64 (a0 + (1 : Int))))
 (Zki m a1_0n a1_0c a1_0 a1_1 a1_2 a1_3 (0 : Int) (0 : Int) (0 : Int) (IntKind.wrap .i64 (a0 + (1 : Int))) (IntKind.wrap .i64 (a0 + (1 : Int))) (IntKind.wrap .i64 (a0 + (1 : Int))))
theorem Z11e (m : Nat) (a0 : Int) (a1_0n : Nat) (a1_0c : Option Nat) (a1_0 : List D) (a1_1 : Bool) (a1_2 : Bool) (a1_3 : Bool) : funD Tg Z4d m 4 Z2x Tryz.f50 [(D.v (.int .i64 a0)),(D.agg [(D.list a1_0n a1_0c a1_0),(D.v (.bool a1_1)),(D.v (.bool a1_2)),(D.v (.bool a1_3))])] = Zky m a0 a1_0n a1_0c a1_0 a1_1 a1_2 a1_3 := by kernel_rfl
theorem Z155 : Enters Tg 50 := ⟨Tryz.f50,Tryz.func50,by kernel_rfl,by kernel_rfl⟩
theorem Z156 {ds : List D} {d : D} (h : funD Tg Z4d M 4 Z2x Tryz.f50 ds = some d) : DataSem Tg 50 ds d := Zo (H := Z4d) SpOk.nil mixed InlOk.nil Tryz.func50 Z155 h
noncomputable def Z6p : List D → Option D
 | [.v (.int .i64 a0),.agg [.list a1_0n a1_0c a1_0,.v (.bool a1_1),.v (.bool a1_2),.v (.bool a1_3)]] => Zky M a0 a1_0n a1_0c a1_0 a1_1 a1_2 a1_3
 | _ => none
theorem Zud : ∀ ds d,Z6p ds = some d → DataSem Tg 50 ds d := by
 intro ds d h
 unfold Z6p at h
 split at h
 ·exact Z156 ((Z11e M _ _ _ _ _ _ _).trans h)
 ·cases h
def Zy : FnH := ⟨[],[(4,⟨(bm 28 69),[],(some 3),none⟩),(6,⟨(bm 28 69),[],(some 3),none⟩),(8,⟨(bm 28 69),[],(some 3),none⟩),(10,⟨(bm 28 69),[],(some 3),none⟩),(12,⟨(bm 28 69),[],(some 3),none⟩)]⟩
noncomputable def Z1y : Hints := ⟨[],[],[]⟩
noncomputable def Zlv (m : Nat) (Z3v : Int) (Z4x : Int) (Z44 : Int) (Z5s : Bool) (Z5q : Bool) (Z81 : Nat) (Z6g : Option Nat) (Z8e : List D) (Z6y : Bool) (Ze7 : Nat) (Z5i : Option Nat) (Z56 : List D) (Zkv : Int) (Zkc : Int) (Zkw : Int) (Zkx : Int) (Zq6 : Int) (Zhw : Int) : Option D :=
 cutK m (codeK Tg Z1y.sp ⟨0,[],false,[]⟩ (inlK Tg Z1y m 4) m Zy (subc [1,0,1,0,1] (bodyOf Tryz.f108)) ⟨[Jk,Jk,(AV.ptr 0 0),(AV.ptr 1 0),(AV.ptr 2 0),Jk,Jk,Jk,Jk,Jk,Jk,Jk,Jk,Jk,Jk,Jk,Jk,Jk,Jk,Jk,Jk,Jk,Jk,Jk,Jk,Jk,Jk,Jk,Jk,Jk,Jk,Jk,Jk,Jk,Jk,Jk,Jk,Jk,Jk,Jk,Jk,Jk,Jk,Jk,Jk,Jk,Jk,Jk,Jk,Jk,Jk,Jk,Jk,Jk,Jk,Jk,Jk,Jk,Jk,Jk,Jk,Jk,Jk,Jk,Jk,Jk,Jk,Jk,Jk],[(Blk.d 3 [(D.v (.int .i64 Z3v)),(D.v (.int .i64 Z4x)),(D.v (.int .i64 Z44))]),(Blk.d 8 [(D.v (.bool Z5s)),(D.v (.bool Z5q)),(D.list Z81 Z6g Z8e),(D.v (.bool Z6y)),(D.list Ze7 Z5i Z56),(D.v (.int .i64 Zkv)),(D.v (.int .i64 Zkc)),(D.v (.int .i64 Zkw))]),(Blk.d 3 [(D.v (.int .i64 Zkx)),(D.v (.int .i64 Zq6)),(D.v (.int .i64 Zhw))])]⟩
  (contK Tg Z1y.sp ⟨0,[],false,[]⟩ (inlK Tg Z1y m 4) m Zy (endK Tg Tryz.f108 endV) [.code (subc [1,1] (bodyOf Tryz.f108))]))
noncomputable def Zlw (m : Nat) (Zfi : Int) (Zjz : Int) (Zkq : Int) (Zlm : Bool) (Zne : Bool) (Zk0 : Nat) (Zm8 : Option Nat) (Znf : List D) (Zmd : Bool) (Zpk : Nat) (Zbr : Option Nat) (Zh1 : List D) (Zos : Int) (Zot : Int) (Zou : Int) (Zov : Int) (Zow : Int) (Zq7 : Int) : Option D :=
 cutK m (codeK Tg Z1y.sp ⟨0,[],false,[]⟩ (inlK Tg Z1y m 4) m Zy (subc [1,0,1,0,1,1] (bodyOf Tryz.f108)) ⟨[Jk,Jk,(AV.ptr 0 0),(AV.ptr 1 0),(AV.ptr 2 0),Jk,Jk,Jk,Jk,Jk,Jk,Jk,Jk,Jk,Jk,Jk,Jk,Jk,Jk,Jk,Jk,Jk,Jk,Jk,Jk,Jk,Jk,Jk,Jk,Jk,Jk,Jk,Jk,Jk,Jk,Jk,Jk,Jk,Jk,Jk,Jk,Jk,Jk,Jk,Jk,Jk,Jk,Jk,Jk,Jk,Jk,Jk,Jk,Jk,Jk,Jk,Jk,Jk,Jk,Jk,Jk,Jk,Jk,Jk,Jk,Jk,Jk,Jk,Jk],[(Blk.d 3 [(D.v (.int .i64 Zfi)),(D.v (.int .i64 Zjz)),(D.v (.int .i64 Zkq))]),(Blk.d 8 [(D.v (.bool Zlm)),(D.v (.bool Zne)),(D.list Zk0 Zm8 Znf),(D.v (.bool Zmd)),(D.list Zpk Zbr Zh1),(D.v (.int .i64 Zos)),(D.v (.int .i64 Zot)),(D.v (.int .i64 Zou))]),(Blk.d 3 [(D.v (.int .i64 Zov)),(D.v (.int .i64 Zow)),(D.v (.int .i64 Zq7))])]⟩
  (contK Tg Z1y.sp ⟨0,[],false,[]⟩ (inlK Tg Z1y m 4) m Zy (endK Tg Tryz.f108 endV) [.code (subc [1,1] (bodyOf Tryz.f108))]))
noncomputable def Zhc (m : Nat) (Zo3 : Int) (Zme : Int) (Zoa : Int) (Zox : Bool) (Zsv : Bool) (Znh : Nat) (Zsw : Option Nat) (Zsx : List D) (Zsy : Bool) (Zvd : Nat) (Zg4 : Option Nat) (Zoy : List D) (Zlo : Int) (Zoz : Int) (Zp0 : Int) (Zp1 : Int) (Zp2 : Int) (Zp3 : Int) : Option D :=
 cutK m (codeK Tg Z1y.sp ⟨0,[],false,[]⟩ (inlK Tg Z1y m 4) m Zy (subc [1,1] (bodyOf Tryz.f108)) ⟨[Jk,Jk,(AV.ptr 0 0),(AV.ptr 1 0),(AV.ptr 2 0),Jk,Jk,Jk,Jk,Jk,Jk,Jk,Jk,Jk,Jk,Jk,Jk,Jk,Jk,Jk,Jk,Jk,Jk,Jk,Jk,Jk,Jk,Jk,Jk,Jk,Jk,Jk,Jk,Jk,Jk,Jk,Jk,Jk,Jk,Jk,Jk,Jk,Jk,Jk,Jk,Jk,Jk,Jk,Jk,Jk,Jk,Jk,Jk,Jk,Jk,Jk,Jk,Jk,Jk,Jk,Jk,Jk,Jk,Jk,Jk,Jk,Jk,Jk,Jk],[(Blk.d 3 [(D.v (.int .i64 Zo3)),(D.v (.int .i64 Zme)),(D.v (.int .i64 Zoa))]),(Blk.d 8 [(D.v (.bool Zox)),(D.v (.bool Zsv)),(D.list Znh Zsw Zsx),(D.v (.bool Zsy)),(D.list Zvd Zg4 Zoy),(D.v (.int .i64 Zlo)),(D.v (.int .i64 Zoz)),(D.v (.int .i64 Zp0))]),(Blk.d 3 [(D.v (.int .i64 Zp1)),(D.v (.int .i64 Zp2)),(D.v (.int .i64 Zp3))])]⟩
  (contK Tg Z1y.sp ⟨0,[],false,[]⟩ (inlK Tg Z1y m 4) m Zy (endK Tg Tryz.f108 endV) []))
noncomputable def Zeu (m : Nat) (Ztv : Int) (Zve : Int) (Zxo : Int) (Zxp : Bool) (Zvf : Bool) (Zvg : Nat) (Zvh : Option Nat) (Zvi : List D) (Zvj : Bool) (Zxq : Nat) (Zhx : Option Nat) (Zhy : List D) (Zhz : Int) (Zlp : Int) (Zp4 : Int) (Zp5 : Int) (Zp6 : Int) (Zp7 : Int) : Option D :=
 cutK m (codeK Tg Z1y.sp ⟨0,[],false,[]⟩ (inlK Tg Z1y m 4) m Zy (subc [1,1,1] (bodyOf Tryz.f108)) ⟨[Jk,Jk,(AV.ptr 0 0),(AV.ptr 1 0),(AV.ptr 2 0),Jk,Jk,Jk,Jk,Jk,Jk,Jk,Jk,Jk,Jk,Jk,Jk,Jk,Jk,Jk,Jk,Jk,Jk,Jk,Jk,Jk,Jk,Jk,Jk,Jk,Jk,Jk,Jk,Jk,Jk,Jk,Jk,Jk,Jk,Jk,Jk,Jk,Jk,Jk,Jk,Jk,Jk,Jk,Jk,Jk,Jk,Jk,Jk,Jk,Jk,Jk,Jk,Jk,Jk,Jk,Jk,Jk,Jk,Jk,Jk,Jk,Jk,Jk,Jk],[(Blk.d 3 [(D.v (.int .i64 Ztv)),(D.v (.int .i64 Zve)),(D.v (.int .i64 Zxo))]),(Blk.d 8 [(D.v (.bool Zxp)),(D.v (.bool Zvf)),(D.list Zvg Zvh Zvi),(D.v (.bool Zvj)),(D.list Zxq Zhx Zhy),(D.v (.int .i64 Zhz)),(D.v (.int .i64 Zlp)),(D.v (.int .i64 Zp4))]),(Blk.d 3 [(D.v (.int .i64 Zp5)),(D.v (.int .i64 Zp6)),(D.v (.int .i64 Zp7))])]⟩
  (contK Tg Z1y.sp ⟨0,[],false,[]⟩ (inlK Tg Z1y m 4) m Zy (endK Tg Tryz.f108 endV) []))
noncomputable def Zev (m : Nat) (Zrb : Int) (Z13q : Int) (Z154 : Int) (Z18s : Bool) (Z17t : Bool) (Z14x : Nat) (Z17u : Option Nat) (Z14y : List D) (Z17v : Bool) (Z18t : Nat) (Zp8 : Option Nat) (Zp9 : List D) (Zpa : Int) (Zyl : Int) (Ztw : Int) (Zym : Int) (Zyn : Int) (Zyo : Int) : Option D :=
 cutK m (codeK Tg Z1y.sp ⟨0,[],false,[]⟩ (inlK Tg Z1y m 4) m Zy (subc [1,1,1,1] (bodyOf Tryz.f108)) ⟨[Jk,Jk,(AV.ptr 0 0),(AV.ptr 1 0),(AV.ptr 2 0),Jk,Jk,Jk,Jk,Jk,Jk,Jk,Jk,Jk,Jk,Jk,Jk,Jk,Jk,Jk,Jk,Jk,Jk,Jk,Jk,Jk,Jk,Jk,Jk,Jk,Jk,Jk,Jk,Jk,Jk,Jk,Jk,Jk,Jk,Jk,Jk,Jk,Jk,Jk,Jk,Jk,Jk,Jk,Jk,Jk,Jk,Jk,Jk,Jk,Jk,Jk,Jk,Jk,Jk,Jk,Jk,Jk,Jk,Jk,Jk,Jk,Jk,Jk,Jk],[(Blk.d 3 [(D.v (.int .i64 Zrb)),(D.v (.int .i64 Z13q)),(D.v (.int .i64 Z154))]),(Blk.d 8 [(D.v (.bool Z18s)),(D.v (.bool Z17t)),(D.list Z14x Z17u Z14y),(D.v (.bool Z17v)),(D.list Z18t Zp8 Zp9),(D.v (.int .i64 Zpa)),(D.v (.int .i64 Zyl)),(D.v (.int .i64 Ztw))]),(Blk.d 3 [(D.v (.int .i64 Zym)),(D.v (.int .i64 Zyn)),(D.v (.int .i64 Zyo))])]⟩
  (contK Tg Z1y.sp ⟨0,[],false,[]⟩ (inlK Tg Z1y m 4) m Zy (endK Tg Tryz.f108 endV) []))
theorem Zwy (m : Nat) (Zrb : Int) (Z13q : Int) (Z154 : Int) (Z18s : Bool) (Z17t : Bool) (Z14x : Nat) (Z17u : Option Nat) (Z14y : List D) (Z17v : Bool) (Z18t : Nat) (Zp8 : Option Nat) (Zp9 : List D) (Zpa : Int) (Zyl : Int) (Ztw : Int) (Zym : Int) (Zyn : Int) (Zyo : Int) : Zev m Zrb Z13q Z154 Z18s Z17t Z14x Z17u Z14y Z17v Z18t Zp8 Zp9 Zpa Zyl Ztw Zym Zyn Zyo =
 (cond (Ztw != (-1 : Int))
 (cond (decide (Ztw < Z154))
 (some (D.agg [(D.v (.int .i64 Zrb)),(D.v (.int .i64 Z13q)),(D.v (.int .i64 Ztw))]))
 (some (D.agg [(D.v (.int .i64 Zrb)),(D.v (.int .i64 Z13q)),(D.v (.int .i64 Z154))])))
 (some (D.agg [(D.v (.int .i64 Zrb)),(D.v (.int .i64 Z13q)),(D.v (.int .i64 Z154))]))) := (Z12 m _).trans (by kernel_rfl)
theorem Zwz (m : Nat) (Ztv : Int) (Zve : Int) (Zxo : Int) (Zxp : Bool) (Zvf : Bool) (Zvg : Nat) (Zvh : Option Nat) (Zvi : List D) (Zvj : Bool) (Zxq : Nat) (Zhx : Option Nat) (Zhy : List D) (Zhz : Int) (Zlp : Int) (Zp4 : Int) (Zp5 : Int) (Zp6 : Int) (Zp7 : Int) : Zeu m Ztv Zve Zxo Zxp Zvf Zvg Zvh Zvi Zvj Zxq Zhx Zhy Zhz Zlp Zp4 Zp5 Zp6 Zp7 =
 (cond (Zlp != (-1 : Int))
 (cond (decide (Zlp < Zve))
 (Zev m Ztv Zlp Zxo Zxp Zvf Zvg Zvh Zvi Zvj Zxq Zhx Zhy Zhz Zlp Zp4 Zp5 Zp6 Zp7)
 (Zev m Ztv Zve Zxo Zxp Zvf Zvg Zvh Zvi Zvj Zxq Zhx Zhy Zhz Zlp Zp4 Zp5 Zp6 Zp7))
 (Zev m Ztv Zve Zxo Zxp Zvf Zvg Zvh Zvi Zvj Zxq Zhx Zhy Zhz Zlp Zp4 Zp5 Zp6 Zp7)) := (Z12 m _).trans (by kernel_rfl)
theorem Zz0 (m : Nat) (Zo3 : Int) (Zme : Int) (Zoa : Int) (Zox : Bool) (Zsv : Bool) (Znh : Nat) (Zsw : Option Nat) (Zsx : List D) (Zsy : Bool) (Zvd : Nat) (Zg4 : Option Nat) (Zoy : List D) (Zlo : Int) (Zoz : Int) (Zp0 : Int) (Zp1 : Int) (Zp2 : Int) (Zp3 : Int) : Zhc m Zo3 Zme Zoa Zox Zsv Znh Zsw Zsx Zsy Zvd Zg4 Zoy Zlo Zoz Zp0 Zp1 Zp2 Zp3 =
 (cond (Zlo != (-1 : Int))
 (cond (decide (Zlo < Zo3))
 (Zeu m Zlo Zme Zoa Zox Zsv Znh Zsw Zsx Zsy Zvd Zg4 Zoy Zlo Zoz Zp0 Zp1 Zp2 Zp3)
 (Zeu m Zo3 Zme Zoa Zox Zsv Znh Zsw Zsx Zsy Zvd Zg4 Zoy Zlo Zoz Zp0 Zp1 Zp2 Zp3))
 (Zeu m Zo3 Zme Zoa Zox Zsv Znh Zsw Zsx Zsy Zvd Zg4 Zoy Zlo Zoz Zp0 Zp1 Zp2 Zp3)) := (Z12 m _).trans (by kernel_rfl)
theorem Zz1 (m : Nat) (Zfi : Int) (Zjz : Int) (Zkq : Int) (Zlm : Bool) (Zne : Bool) (Zk0 : Nat) (Zm8 : Option Nat) (Znf : List D) (Zmd : Bool) (Zpk : Nat) (Zbr : Option Nat) (Zh1 : List D) (Zos : Int) (Zot : Int) (Zou : Int) (Zov : Int) (Zow : Int) (Zq7 : Int) : Zlw m Zfi Zjz Zkq Zlm Zne Zk0 Zm8 Znf Zmd Zpk Zbr Zh1 Zos Zot Zou Zov Zow Zq7 =
 (cond (Zkq != (0 : Int))
 (Zhc m Zfi Zjz (IntKind.wrap .i64 (Zkq - (1 : Int))) Zlm Zne Zk0 Zm8 Znf Zmd Zpk Zbr Zh1 Zos Zot Zou Zov Zow Zq7)
 (Zhc m Zfi Zjz Zkq Zlm Zne Zk0 Zm8 Znf Zmd Zpk Zbr Zh1 Zos Zot Zou Zov Zow Zq7)) := (Z12 m _).trans (by kernel_rfl)
theorem Zz2 (m : Nat) (Z3v : Int) (Z4x : Int) (Z44 : Int) (Z5s : Bool) (Z5q : Bool) (Z81 : Nat) (Z6g : Option Nat) (Z8e : List D) (Z6y : Bool) (Ze7 : Nat) (Z5i : Option Nat) (Z56 : List D) (Zkv : Int) (Zkc : Int) (Zkw : Int) (Zkx : Int) (Zq6 : Int) (Zhw : Int) : Zlv m Z3v Z4x Z44 Z5s Z5q Z81 Z6g Z8e Z6y Ze7 Z5i Z56 Zkv Zkc Zkw Zkx Zq6 Zhw =
 (cond (Z4x != (0 : Int))
 (Zlw m Z3v (IntKind.wrap .i64 (Z4x - (1 : Int))) Z44 Z5s Z5q Z81 Z6g Z8e Z6y Ze7 Z5i Z56 Zkv Zkc Zkw Zkx Zq6 Zhw)
 (Zlw m Z3v Z4x Z44 Z5s Z5q Z81 Z6g Z8e Z6y Ze7 Z5i Z56 Zkv Zkc Zkw Zkx Zq6 Zhw)) := (Z12 m _).trans (by kernel_rfl)
noncomputable def Znj (m : Nat) (a0_0 : Int) (a0_1 : Int) (a0_2 : Int) (a1_0 : Bool) (a1_1 : Bool) (a1_2n : Nat) (a1_2c : Option Nat) (a1_2 : List D) (a1_3 : Bool) (a1_4n : Nat) (a1_4c : Option Nat) (a1_4 : List D) (a1_5 : Int) (a1_6 : Int) (a1_7 : Int) : Option D :=
 cond (!a1_0)
 (cond (a0_0 != (0 : Int))
 (Zlv m (IntKind.wrap .i64 (a0_0 - (1 : Int))) a0_1 a0_2 a1_0 a1_1 a1_2n a1_2c a1_2 a1_3 a1_4n a1_4c a1_4 a1_5 a1_6 a1_7 (0 : Int) (0 : Int) (0 : Int))
 (Zlv m a0_0 a0_1 a0_2 a1_0 a1_1 a1_2n a1_2c a1_2 a1_3 a1_4n a1_4c a1_4 a1_5 a1_6 a1_7 (0 : Int) (0 : Int) (0 : Int)))
 (Zhc m a0_0 a0_1 a0_2 a1_0 a1_1 a1_2n a1_2c a1_2 a1_3 a1_4n a1_4c a1_4 a1_5 a1_6 a1_7 (0 : Int) (0 : Int) (0 : Int))
theorem Z141 (m : Nat) (a0_0 : Int) (a0_1 : Int) (a0_2 : Int) (a1_0 : Bool) (a1_1 : Bool) (a1_2n : Nat) (a1_2c : Option Nat) (a1_2 : List D) (a1_3 : Bool) (a1_4n : Nat) (a1_4c : Option Nat) (a1_4 : List D) (a1_5 : Int) (a1_6 : Int) (a1_7 : Int) : funD Tg Z1y m 4 Zy Tryz.f108 [(D.agg [(D.v (.int .i64 a0_0)),(D.v (.int .i64 a0_1)),(D.v (.int .i64 a0_2))]),(D.agg [(D.v (.bool a1_0)),(D.v (.bool a1_1)),(D.list a1_2n a1_2c a1_2),(D.v (.bool a1_3)),(D.list a1_4n a1_4c a1_4),(D.v (.int .i64 a1_5)),(D.v (.int .i64 a1_6)),(D.v (.int .i64 a1_7))])] = Znj m a0_0 a0_1 a0_2 a1_0 a1_1 a1_2n a1_2c a1_2 a1_3 a1_4n a1_4c a1_4 a1_5 a1_6 a1_7 := by kernel_rfl
theorem Z18a : Enters Tg 108 := ⟨Tryz.f108,Tryz.func108,by kernel_rfl,by kernel_rfl⟩
theorem Z18b {ds : List D} {d : D} (h : funD Tg Z1y M 4 Zy Tryz.f108 ds = some d) : DataSem Tg 108 ds d := Zo (H := Z1y) SpOk.nil mixed InlOk.nil Tryz.func108 Z18a h
noncomputable def Zhd : List D → Option D
 | [.agg [.v (.int .i64 a0_0),.v (.int .i64 a0_1),.v (.int .i64 a0_2)],.agg [.v (.bool a1_0),.v (.bool a1_1),.list a1_2n a1_2c a1_2,.v (.bool a1_3),.list a1_4n a1_4c a1_4,.v (.int .i64 a1_5),.v (.int .i64 a1_6),.v (.int .i64 a1_7)]] => Znj M a0_0 a0_1 a0_2 a1_0 a1_1 a1_2n a1_2c a1_2 a1_3 a1_4n a1_4c a1_4 a1_5 a1_6 a1_7
 | _ => none
theorem Z18c : ∀ ds d,Zhd ds = some d → DataSem Tg 108 ds d := by
 intro ds d h
 unfold Zhd at h
 split at h
 ·exact Z18b ((Z141 M _ _ _ _ _ _ _ _ _ _ _ _ _ _ _).trans h)
 ·cases h
def Z4w : FnH := ⟨[],[(4,⟨(bm 40 16),[],(some 2),none⟩)]⟩
noncomputable def Zck : Hints := ⟨[],[],[]⟩
noncomputable def Zlx (m : Nat) (Z3v : Int) (Z4x : Int) (Z44 : Int) (Z5s : Int) (Z5q : Bool) (Z81 : Bool) (Z6g : Nat) (Z8e : Option Nat) (Z6y : List D) (Ze7 : Bool) (Z5i : Nat) (Z56 : Option Nat) (Zkv : List D) (Zkc : Int) (Zkw : Int) (Zkx : Int) : Option D :=
 cutK m (codeK Tg Zck.sp ⟨0,[],false,[]⟩ (inlK Tg Zck m 4) m Z4w (subc [1,1,1] (bodyOf Tryz.f107)) ⟨[Jk,Jk,Jk,(AV.ptr 1 0),Jk,(AV.d (D.v (.int .i64 Z3v))),Jk,Jk,Jk,Jk,Jk,Jk,Jk,Jk,Jk,Jk],[(Blk.d 3 [(D.v (.int .i64 Z4x)),(D.v (.int .i64 Z44)),(D.v (.int .i64 Z5s))]),(Blk.d 8 [(D.v (.bool Z5q)),(D.v (.bool Z81)),(D.list Z6g Z8e Z6y),(D.v (.bool Ze7)),(D.list Z5i Z56 Zkv),(D.v (.int .i64 Zkc)),(D.v (.int .i64 Zkw)),(D.v (.int .i64 Zkx))])]⟩
  (contK Tg Zck.sp ⟨0,[],false,[]⟩ (inlK Tg Zck m 4) m Z4w (endK Tg Tryz.f107 endV) []))
theorem Zpc (m : Nat) (Z3v : Int) (Z4x : Int) (Z44 : Int) (Z5s : Int) (Z5q : Bool) (Z81 : Bool) (Z6g : Nat) (Z8e : Option Nat) (Z6y : List D) (Ze7 : Bool) (Z5i : Nat) (Z56 : Option Nat) (Zkv : List D) (Zkc : Int) (Zkw : Int) (Zkx : Int) : Zlx m Z3v Z4x Z44 Z5s Z5q Z81 Z6g Z8e Z6y Ze7 Z5i Z56 Zkv Zkc Zkw Zkx =
 (cond (Zkc == (0 : Int))
 (some zI)
 (some (D.v (.int .i64 Z3v)))) := (Z12 m _).trans (by kernel_rfl)
noncomputable def Znk (m : Nat) (a0_0 : Int) (a0_1 : Int) (a0_2 : Int) (a1_0 : Bool) (a1_1 : Bool) (a1_2n : Nat) (a1_2c : Option Nat) (a1_2 : List D) (a1_3 : Bool) (a1_4n : Nat) (a1_4c : Option Nat) (a1_4 : List D) (a1_5 : Int) (a1_6 : Int) (a1_7 : Int) : Option D :=
 cond (a0_0 != (0 : Int))
 (Zlx m (IntKind.wrap .i64 (a0_0 - (1 : Int))) a0_0 a0_1 a0_2 a1_0 a1_1 a1_2n a1_2c a1_2 a1_3 a1_4n a1_4c a1_4 a1_5 a1_6 a1_7)
 (Zlx m a0_0 a0_0 a0_1 a0_2 a1_0 a1_1 a1_2n a1_2c a1_2 a1_3 a1_4n a1_4c a1_4 a1_5 a1_6 a1_7)
theorem Z142 (m : Nat) (a0_0 : Int) (a0_1 : Int) (a0_2 : Int) (a1_0 : Bool) (a1_1 : Bool) (a1_2n : Nat) (a1_2c : Option Nat) (a1_2 : List D) (a1_3 : Bool) (a1_4n : Nat) (a1_4c : Option Nat) (a1_4 : List D) (a1_5 : Int) (a1_6 : Int) (a1_7 : Int) : funD Tg Zck m 4 Z4w Tryz.f107 [(D.agg [(D.v (.int .i64 a0_0)),(D.v (.int .i64 a0_1)),(D.v (.int .i64 a0_2))]),(D.agg [(D.v (.bool a1_0)),(D.v (.bool a1_1)),(D.list a1_2n a1_2c a1_2),(D.v (.bool a1_3)),(D.list a1_4n a1_4c a1_4),(D.v (.int .i64 a1_5)),(D.v (.int .i64 a1_6)),(D.v (.int .i64 a1_7))])] = Znk m a0_0 a0_1 a0_2 a1_0 a1_1 a1_2n a1_2c a1_2 a1_3 a1_4n a1_4c a1_4 a1_5 a1_6 a1_7 := by kernel_rfl
theorem Z18d : Enters Tg 107 := ⟨Tryz.f107,Tryz.func107,by kernel_rfl,by kernel_rfl⟩
theorem Z18e {ds : List D} {d : D} (h : funD Tg Zck M 4 Z4w Tryz.f107 ds = some d) : DataSem Tg 107 ds d := Zo (H := Zck) SpOk.nil mixed InlOk.nil Tryz.func107 Z18d h
noncomputable def Zhe : List D → Option D
 | [.agg [.v (.int .i64 a0_0),.v (.int .i64 a0_1),.v (.int .i64 a0_2)],.agg [.v (.bool a1_0),.v (.bool a1_1),.list a1_2n a1_2c a1_2,.v (.bool a1_3),.list a1_4n a1_4c a1_4,.v (.int .i64 a1_5),.v (.int .i64 a1_6),.v (.int .i64 a1_7)]] => Znk M a0_0 a0_1 a0_2 a1_0 a1_1 a1_2n a1_2c a1_2 a1_3 a1_4n a1_4c a1_4 a1_5 a1_6 a1_7
 | _ => none
theorem Z18f : ∀ ds d,Zhe ds = some d → DataSem Tg 107 ds d := by
 intro ds d h
 unfold Zhe at h
 split at h
 ·exact Z18e ((Z142 M _ _ _ _ _ _ _ _ _ _ _ _ _ _ _).trans h)
 ·cases h
def Z41 : FnH := ⟨[(3,⟨(bm 453 26),[],(some 3),none⟩)],[]⟩
noncomputable def Z6q : Hints := ⟨[(50,Z6p),(108,Zhd)],[],[]⟩
noncomputable def Zew (m n0 : Nat) (Z2h : Nat) (Z3b : Option Nat) (Z25 : List D) (Z2p : Int) (Z1q : Int) (Z48 : Nat) (Z49 : Option Nat) (Z4p : List D) (Z57 : Bool) (Z6o : Bool) (Z2l : Bool) (Z2k : List D) : Option D :=
 Z26 (bm 453 26) 0 3 (codeK Tg Z6q.sp ⟨0,[],false,[]⟩ (inlK Tg Z6q m 4) m Z41 (subc [1,1,0,1,0,0] (bodyOf Tryz.f49))) n0 ⟨[(AV.d (D.list Z2h Z3b Z25)),Jk,(AV.d (D.v (.int .i64 Z2p))),Jk,Jk,Jk,(AV.ptr 1 0),(AV.ptr 2 0),(AV.d (D.v (.int .i64 Z1q))),Jk,Jk,Jk,Jk,Jk,Jk,Jk,Jk,Jk,Jk,Jk,Jk,Jk,Jk,Jk,Jk,Jk],[(Blk.d 4 [(D.list Z48 Z49 Z4p),(D.v (.bool Z57)),(D.v (.bool Z6o)),(D.v (.bool Z2l))]),(Blk.d 3 [zI,zI,zI]),(Blk.d 3 Z2k)]⟩
  (contK Tg Z6q.sp ⟨0,[],false,[]⟩ (inlK Tg Z6q m 4) m Z41 (endK Tg Tryz.f49 endV) [.block 0,.code (subc [1,1,1] (bodyOf Tryz.f49))])
theorem Zx0 (m n0 : Nat) (Z2h : Nat) (Z3b : Option Nat) (Z25 : List D) (Z2p : Int) (Z1q : Int) (Z48 : Nat) (Z49 : Option Nat) (Z4p : List D) (Z57 : Bool) (Z6o : Bool) (Z2l : Bool) (Z2k : List D) : Zew m (n0 + 1) Z2h Z3b Z25 Z2p Z1q Z48 Z49 Z4p Z57 Z6o Z2l Z2k =
 (cond (decide (Z1q < Z2p))
 (if 0 ≤ (IntKind.wrap .i64 (Z1q - (1 : Int))) ∧ (IntKind.wrap .i64 (Z1q - (1 : Int))) < (Z2h : Int) then
 if (((Int.toNat (IntKind.wrap .i64 (Z1q - (1 : Int)))) * 8) + 8) ≤ (List.length Z25) then
 (Zhd [(D.agg Z2k),(D.agg ((List.drop ((Int.toNat (IntKind.wrap .i64 (Z1q - (1 : Int)))) * 8) Z25).take 8))]).bind fun d7 =>
 (rdA (some d7)).bind fun c8 =>
 if (List.length c8) = 3 then
 Zew m n0 Z2h Z3b Z25 Z2p (IntKind.wrap .i64 (Z1q + (1 : Int))) Z48 Z49 Z4p Z57 Z6o Z2l c8
 else none
 else none
 else none)
 (if (List.length Z2k) = 3 then
 some (D.agg Z2k)
 else none)) := by kernel_rfl
noncomputable def Ziz (m : Nat) (a0n : Nat) (a0c : Option Nat) (a0 : List D) (a1_0n : Nat) (a1_0c : Option Nat) (a1_0 : List D) (a1_1 : Bool) (a1_2 : Bool) (a1_3 : Bool) (a2 : Int) : Option D :=
 (Z6p [(D.v (.int .i64 (a0n : Int))),(D.agg [(D.list a1_0n a1_0c a1_0),(D.v (.bool a1_1)),(D.v (.bool a1_2)),(D.v (.bool a1_3))])]).bind fun d1 =>
 (rdA (some d1)).bind fun c2 =>
 if (List.length c2) = 3 then
 Zew m m a0n a0c a0 a2 (1 : Int) a1_0n a1_0c a1_0 a1_1 a1_2 a1_3 c2
 else none
theorem Zz3 (m : Nat) (a0n : Nat) (a0c : Option Nat) (a0 : List D) (a1_0n : Nat) (a1_0c : Option Nat) (a1_0 : List D) (a1_1 : Bool) (a1_2 : Bool) (a1_3 : Bool) (a2 : Int) : funD Tg Z6q m 4 Z41 Tryz.f49 [(D.list a0n a0c a0),(D.agg [(D.list a1_0n a1_0c a1_0),(D.v (.bool a1_1)),(D.v (.bool a1_2)),(D.v (.bool a1_3))]),(D.v (.int .i64 a2))] = Ziz m a0n a0c a0 a1_0n a1_0c a1_0 a1_1 a1_2 a1_3 a2 := by kernel_rfl
theorem Z143 : Enters Tg 49 := ⟨Tryz.f49,Tryz.func49,by kernel_rfl,by kernel_rfl⟩
theorem Z144 {ds : List D} {d : D} (h : funD Tg Z6q M 4 Z41 Tryz.f49 ds = some d) : DataSem Tg 49 ds d := Zo (H := Z6q) (SpOk.cons Zud (SpOk.cons Z18c SpOk.nil)) mixed InlOk.nil Tryz.func49 Z143 h
noncomputable def Z4e : List D → Option D
 | [.list a0n a0c a0,.agg [.list a1_0n a1_0c a1_0,.v (.bool a1_1),.v (.bool a1_2),.v (.bool a1_3)],.v (.int .i64 a2)] => Ziz M a0n a0c a0 a1_0n a1_0c a1_0 a1_1 a1_2 a1_3 a2
 | _ => none
theorem Zly : ∀ ds d,Z4e ds = some d → DataSem Tg 49 ds d := by
 intro ds d h
 unfold Z4e at h
 split at h
 ·exact Z144 ((Zz3 M _ _ _ _ _ _ _ _ _ _).trans h)
 ·cases h
def Zcl : FnH := ⟨[],[]⟩
noncomputable def Zq8 : Hints := ⟨[(49,Z4e),(107,Zhe)],[],[]⟩
noncomputable def Zkz (m : Nat) (a0n : Nat) (a0c : Option Nat) (a0 : List D) (a1_0n : Nat) (a1_0c : Option Nat) (a1_0 : List D) (a1_1 : Bool) (a1_2 : Bool) (a1_3 : Bool) : Option D :=
 (Z4e [(D.list a0n a0c a0),(D.agg [(D.list a1_0n a1_0c a1_0),(D.v (.bool a1_1)),(D.v (.bool a1_2)),(D.v (.bool a1_3))]),(D.v (.int .i64 (a0n : Int)))]).bind fun d1 =>
 (rdA (some d1)).bind fun c2 =>
 if 0 ≤ (IntKind.wrap .i64 ((a0n : Int) - (1 : Int))) ∧ (IntKind.wrap .i64 ((a0n : Int) - (1 : Int))) < (a0n : Int) then
 if (((Int.toNat (IntKind.wrap .i64 ((a0n : Int) - (1 : Int)))) * 8) + 8) ≤ (List.length a0) then
 (Zhe [(D.agg c2),(D.agg ((List.drop ((Int.toNat (IntKind.wrap .i64 ((a0n : Int) - (1 : Int)))) * 8) a0).take 8))]).bind fun d3 =>
 (rdI .i64 (some d3)).bind fun x4 =>
 some (D.v (.int .i64 x4))
 else none
 else none
theorem Z11f (m : Nat) (a0n : Nat) (a0c : Option Nat) (a0 : List D) (a1_0n : Nat) (a1_0c : Option Nat) (a1_0 : List D) (a1_1 : Bool) (a1_2 : Bool) (a1_3 : Bool) : funD Tg Zq8 m 4 Zcl Tryz.f48 [(D.list a0n a0c a0),(D.agg [(D.list a1_0n a1_0c a1_0),(D.v (.bool a1_1)),(D.v (.bool a1_2)),(D.v (.bool a1_3))])] = Zkz m a0n a0c a0 a1_0n a1_0c a1_0 a1_1 a1_2 a1_3 := by kernel_rfl
theorem Z157 : Enters Tg 48 := ⟨Tryz.f48,Tryz.func48,by kernel_rfl,by kernel_rfl⟩
theorem Z158 {ds : List D} {d : D} (h : funD Tg Zq8 M 4 Zcl Tryz.f48 ds = some d) : DataSem Tg 48 ds d := Zo (H := Zq8) (SpOk.cons Zly (SpOk.cons Z18f SpOk.nil)) mixed InlOk.nil Tryz.func48 Z157 h
noncomputable def Zej : List D → Option D
 | [.list a0n a0c a0,.agg [.list a1_0n a1_0c a1_0,.v (.bool a1_1),.v (.bool a1_2),.v (.bool a1_3)]] => Zkz M a0n a0c a0 a1_0n a1_0c a1_0 a1_1 a1_2 a1_3
 | _ => none
theorem Z159 : ∀ ds d,Zej ds = some d → DataSem Tg 48 ds d := by
 intro ds d h
 unfold Zej at h
 split at h
 ·exact Z158 ((Z11f M _ _ _ _ _ _ _ _ _).trans h)
 ·cases h
end Go.Ev