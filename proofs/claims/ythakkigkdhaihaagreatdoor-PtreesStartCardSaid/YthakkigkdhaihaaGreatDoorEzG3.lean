/- Functions of the given program in plain form,printed: each with the proof that it is what the evaluator comes to,and that the program function returns what it says. No conditions. -/
import Derived.Test.YthakkigkdhaihaaGreatDoorEzG2
set_option linter.unusedVariables false
set_option maxRecDepth 100000
namespace Go.Ev
open Go Go.Proofs
def Z3m : FnH := ⟨[],[]⟩
noncomputable def Zap : Hints := ⟨[],[],[]⟩
noncomputable def Z69 (m : Nat) (a0 : Int) (a1 : Int) (a2 : Int) : Option D :=
 cond ((mm true a0 a1) == a1)
 (some (D.v (.bool ((mm false a0 a2) == a2))))
 (some (D.v (.bool false)))
theorem Zvt (m : Nat) (a0 : Int) (a1 : Int) (a2 : Int) : funD Tg Zap m 4 Z3m Tryz.f109 [(D.v (.int .i64 a0)),(D.v (.int .i64 a1)),(D.v (.int .i64 a2))] = Z69 m a0 a1 a2 := by kernel_rfl
theorem Z10u : Enters Tg 109 := ⟨Tryz.f109,Tryz.func109,by kernel_rfl,by kernel_rfl⟩
theorem Z10v {ds : List D} {d : D} (h : funD Tg Zap M 4 Z3m Tryz.f109 ds = some d) : DataSem Tg 109 ds d := Z0 (H := Zap) SpOk.nil mixed InlOk.nil Tryz.func109 Z10u h
noncomputable def Z43 : List D → Option D
 | [.v (.int .i64 a0),.v (.int .i64 a1),.v (.int .i64 a2)] => Z69 M a0 a1 a2
 | _ => none
theorem Z10w : ∀ ds d,Z43 ds = some d → DataSem Tg 109 ds d := by
 intro ds d h
 unfold Z43 at h
 split at h
 ·exact Z10v ((Zvt M _ _ _).trans h)
 ·cases h
def Z6a : FnH := ⟨[],[]⟩
def Zfx : FnH := ⟨[],[]⟩
noncomputable def Zpb : Hints := ⟨[],[(154,Tryz.f154,Zfx)],[]⟩
noncomputable def Zfq (m : Nat) (a0 : Int) (a1_0n : Nat) (a1_0c : Option Nat) (a1_0 : List D) (a1_1 : Bool) (a1_2 : Bool) (a1_3 : Bool) : Option D :=
 cond a1_1
 (cond a1_2
 (cond a1_3
 (some (D.agg [zI,zI,zI]))
 (some (D.agg [zI,zI,(D.v (.int .i64 (IntKind.wrap .i64 (a0 + (1 : Int)))))])))
 (cond a1_3
 (some (D.agg [zI,(D.v (.int .i64 (IntKind.wrap .i64 (a0 + (1 : Int))))),zI]))
 (some (D.agg [zI,(D.v (.int .i64 (IntKind.wrap .i64 (a0 + (1 : Int))))),(D.v (.int .i64 (IntKind.wrap .i64 (a0 + (1 : Int)))))]))))
 (cond a1_2
 (cond a1_3
 (some (D.agg [(D.v (.int .i64 (IntKind.wrap .i64 (a0 + (1 : Int))))),zI,zI]))
 (some (D.agg [(D.v (.int .i64 (IntKind.wrap .i64 (a0 + (1 : Int))))),zI,(D.v (.int .i64 (IntKind.wrap .i64 (a0 + (1 : Int)))))])))
 (cond a1_3
 (some (D.agg [(D.v (.int .i64 (IntKind.wrap .i64 (a0 + (1 : Int))))),(D.v (.int .i64 (IntKind.wrap .i64 (a0 + (1 : Int))))),zI]))
 (some (D.agg [(D.v (.int .i64 (IntKind.wrap .i64 (a0 + (1 : Int))))),(D.v (.int .i64 (IntKind.wrap .i64 (a0 + (1 : Int))))),(D.v (.int .i64 (IntKind.wrap .i64 (a0 + (1 : Int)))))]))))
theorem Z14p (m : Nat) (a0 : Int) (a1_0n : Nat) (a1_0c : Option Nat) (a1_0 : List D) (a1_1 : Bool) (a1_2 : Bool) (a1_3 : Bool) : funD Tg Zpb m 4 Z6a Tryz.f105 [(D.v (.int .i64 a0)),(D.agg [(D.list a1_0n a1_0c a1_0),(D.v (.bool a1_1)),(D.v (.bool a1_2)),(D.v (.bool a1_3))])] = Zfq m a0 a1_0n a1_0c a1_0 a1_1 a1_2 a1_3 := by kernel_rfl
theorem Z17r : Enters Tg 105 := ⟨Tryz.f105,Tryz.func105,by kernel_rfl,by kernel_rfl⟩
theorem Z17s {ds : List D} {d : D} (h : funD Tg Zpb M 4 Z6a Tryz.f105 ds = some d) : DataSem Tg 105 ds d := Z0 (H := Zpb) SpOk.nil mixed (InlOk.cons Tryz.func154 Z14l InlOk.nil) Tryz.func105 Z17r h
noncomputable def Z74 : List D → Option D
 | [.v (.int .i64 a0),.agg [.list a1_0n a1_0c a1_0,.v (.bool a1_1),.v (.bool a1_2),.v (.bool a1_3)]] => Zfq M a0 a1_0n a1_0c a1_0 a1_1 a1_2 a1_3
 | _ => none
theorem Z17t : ∀ ds d,Z74 ds = some d → DataSem Tg 105 ds d := by
 intro ds d h
 unfold Z74 at h
 split at h
 ·exact Z17s ((Z14p M _ _ _ _ _ _ _).trans h)
 ·cases h
def Z6b : FnH := ⟨[],[]⟩
noncomputable def Zpc : Hints := ⟨[(103,Z73),(105,Z74),(109,Z43)],[],[]⟩
noncomputable def Zfr (m : Nat) (a0 : Int) (a1_0n : Nat) (a1_0c : Option Nat) (a1_0 : List D) (a1_1 : Bool) (a1_2 : Bool) (a1_3 : Bool) : Option D :=
 (Z43 [(D.v (.int .i64 a0)),(D.v (.int .i64 (1 : Int))),(D.v (.int .i64 (64 : Int)))]).bind fun d1 =>
 (rdB (some d1)).bind fun b2 =>
 cond (!b2)
 (some (D.tup [(D.agg [zI,zI,zI]),(D.v (.int .i64 (1 : Int)))]))
 ((Z73 [(D.agg [(D.list a1_0n a1_0c a1_0),(D.v (.bool a1_1)),(D.v (.bool a1_2)),(D.v (.bool a1_3))])]).bind fun d3 =>
 (rdI .i64 (some d3)).bind fun x4 =>
 cond (x4 != (0 : Int))
 (some (D.tup [(D.agg [zI,zI,zI]),(D.v (.int .i64 x4))]))
 ((Z74 [(D.v (.int .i64 a0)),(D.agg [(D.list a1_0n a1_0c a1_0),(D.v (.bool a1_1)),(D.v (.bool a1_2)),(D.v (.bool a1_3))])]).bind fun d5 =>
 (rdA (some d5)).bind fun c6 =>
 if (List.length c6) = 3 then
 some (D.tup [(D.agg c6),zI])
 else none))
theorem Z14q (m : Nat) (a0 : Int) (a1_0n : Nat) (a1_0c : Option Nat) (a1_0 : List D) (a1_1 : Bool) (a1_2 : Bool) (a1_3 : Bool) : funD Tg Zpc m 4 Z6b Tryz.f52 [(D.v (.int .i64 a0)),(D.agg [(D.list a1_0n a1_0c a1_0),(D.v (.bool a1_1)),(D.v (.bool a1_2)),(D.v (.bool a1_3))])] = Zfr m a0 a1_0n a1_0c a1_0 a1_1 a1_2 a1_3 := by kernel_rfl
theorem Z17u : Enters Tg 52 := ⟨Tryz.f52,Tryz.func52,by kernel_rfl,by kernel_rfl⟩
theorem Z17v {ds : List D} {d : D} (h : funD Tg Zpc M 4 Z6b Tryz.f52 ds = some d) : DataSem Tg 52 ds d := Z0 (H := Zpc) (SpOk.cons Z17k (SpOk.cons Z17t (SpOk.cons Z10w SpOk.nil))) mixed InlOk.nil Tryz.func52 Z17u h
noncomputable def Z36 : List D → Option D
 | [.v (.int .i64 a0),.agg [.list a1_0n a1_0c a1_0,.v (.bool a1_1),.v (.bool a1_2),.v (.bool a1_3)]] => Zfr M a0 a1_0n a1_0c a1_0 a1_1 a1_2 a1_3
 | _ => none
theorem Z17w : ∀ ds d,Z36 ds = some d → DataSem Tg 52 ds d := by
 intro ds d h
 unfold Z36 at h
 split at h
 ·exact Z17v ((Z14q M _ _ _ _ _ _ _).trans h)
 ·cases h
def Z1t : FnH := ⟨[],[(4,⟨(bm 56 23),[],(some 3),none⟩),(6,⟨(bm 56 23),[],(some 3),none⟩)]⟩
noncomputable def Z3n : Hints := ⟨[],[],[]⟩
noncomputable def Zpd (m : Nat) (Zsk : Nat) (Z170 : Option Nat) (Zyu : List D) (Z15n : Bool) (Z19f : Bool) (Z1gh : Bool) (Z1fi : Int) (Z1fj : Int) (Z1fk : Int) (Z1kx : Int) (Z1gi : Int) (Z1f7 : Int) : Option D :=
 cutK m (codeK Tg Z3n.sp ⟨0,[],false,[]⟩ (inlK Tg Z3n m 4) m Z1t (subc [1,1,1] (bodyOf Tryz.f50)) ⟨[Jk,Jk,Jk,(AV.ptr 0 0),(AV.ptr 1 0),(AV.ptr 2 0),Jk,Jk,Jk,Jk,Jk,Jk,Jk,Jk,Jk,Jk,Jk,Jk,Jk,Jk,Jk,Jk,Jk],[(Blk.d 4 [(D.list Zsk Z170 Zyu),(D.v (.bool Z15n)),(D.v (.bool Z19f)),(D.v (.bool Z1gh))]),(Blk.d 3 [(D.v (.int .i64 Z1fi)),(D.v (.int .i64 Z1fj)),(D.v (.int .i64 Z1fk))]),(Blk.d 3 [(D.v (.int .i64 Z1kx)),(D.v (.int .i64 Z1gi)),(D.v (.int .i64 Z1f7))])]⟩
  (contK Tg Z3n.sp ⟨0,[],false,[]⟩ (inlK Tg Z3n m 4) m Z1t (endK Tg Tryz.f50 endV) []))
noncomputable def Zpe (m : Nat) (Z1d5 : Nat) (Z1h9 : Option Nat) (Z1ky : List D) (Z1kz : Bool) (Z1l0 : Bool) (Z1kj : Bool) (Z1l1 : Int) (Z1l2 : Int) (Z1l3 : Int) (Z1m8 : Int) (Z1k6 : Int) (Z1l4 : Int) : Option D :=
 cutK m (codeK Tg Z3n.sp ⟨0,[],false,[]⟩ (inlK Tg Z3n m 4) m Z1t (subc [1,1,1,1] (bodyOf Tryz.f50)) ⟨[Jk,Jk,Jk,(AV.ptr 0 0),(AV.ptr 1 0),(AV.ptr 2 0),Jk,Jk,Jk,Jk,Jk,Jk,Jk,Jk,Jk,Jk,Jk,Jk,Jk,Jk,Jk,Jk,Jk],[(Blk.d 4 [(D.list Z1d5 Z1h9 Z1ky),(D.v (.bool Z1kz)),(D.v (.bool Z1l0)),(D.v (.bool Z1kj))]),(Blk.d 3 [(D.v (.int .i64 Z1l1)),(D.v (.int .i64 Z1l2)),(D.v (.int .i64 Z1l3))]),(Blk.d 3 [(D.v (.int .i64 Z1m8)),(D.v (.int .i64 Z1k6)),(D.v (.int .i64 Z1l4))])]⟩
  (contK Tg Z3n.sp ⟨0,[],false,[]⟩ (inlK Tg Z3n m 4) m Z1t (endK Tg Tryz.f50 endV) []))
theorem Z15t (m : Nat) (Z1d5 : Nat) (Z1h9 : Option Nat) (Z1ky : List D) (Z1kz : Bool) (Z1l0 : Bool) (Z1kj : Bool) (Z1l1 : Int) (Z1l2 : Int) (Z1l3 : Int) (Z1m8 : Int) (Z1k6 : Int) (Z1l4 : Int) : Zpe m Z1d5 Z1h9 Z1ky Z1kz Z1l0 Z1kj Z1l1 Z1l2 Z1l3 Z1m8 Z1k6 Z1l4 =
 (cond Z1kj
 (some (D.agg [(D.v (.int .i64 Z1m8)),(D.v (.int .i64 Z1k6)),zI]))
 (some (D.agg [(D.v (.int .i64 Z1m8)),(D.v (.int .i64 Z1k6)),(D.v (.int .i64 Z1l4))]))) := (Zms m _).trans (by kernel_rfl)
theorem Z15u (m : Nat) (Zsk : Nat) (Z170 : Option Nat) (Zyu : List D) (Z15n : Bool) (Z19f : Bool) (Z1gh : Bool) (Z1fi : Int) (Z1fj : Int) (Z1fk : Int) (Z1kx : Int) (Z1gi : Int) (Z1f7 : Int) : Zpd m Zsk Z170 Zyu Z15n Z19f Z1gh Z1fi Z1fj Z1fk Z1kx Z1gi Z1f7 =
 (cond Z19f
 (Zpe m Zsk Z170 Zyu Z15n Z19f Z1gh Z1fi Z1fj Z1fk Z1kx (0 : Int) Z1f7)
 (Zpe m Zsk Z170 Zyu Z15n Z19f Z1gh Z1fi Z1fj Z1fk Z1kx Z1gi Z1f7)) := (Zms m _).trans (by kernel_rfl)
noncomputable def Zqg (m : Nat) (a0 : Int) (a1_0n : Nat) (a1_0c : Option Nat) (a1_0 : List D) (a1_1 : Bool) (a1_2 : Bool) (a1_3 : Bool) : Option D :=
 cond a1_1
 (Zpd m a1_0n a1_0c a1_0 a1_1 a1_2 a1_3 (0 : Int) (0 : Int) (0 : Int) (0 : Int) (IntKind.wrap .i64 (a0 + (1 : Int))) (IntKind.wrap .i64 (a0 + (1 : Int))))
 (Zpd m a1_0n a1_0c a1_0 a1_1 a1_2 a1_3 (0 : Int) (0 : Int) (0 : Int) (IntKind.wrap .i64 (a0 + (1 : Int))) (IntKind.wrap .i64 (a0 + (1 : Int))) (IntKind.wrap .i64 (a0 + (1 : Int))))
theorem Z19k (m : Nat) (a0 : Int) (a1_0n : Nat) (a1_0c : Option Nat) (a1_0 : List D) (a1_1 : Bool) (a1_2 : Bool) (a1_3 : Bool) : funD Tg Z3n m 4 Z1t Tryz.f50 [(D.v (.int .i64 a0)),(D.agg [(D.list a1_0n a1_0c a1_0),(D.v (.bool a1_1)),(D.v (.bool a1_2)),(D.v (.bool a1_3))])] = Zqg m a0 a1_0n a1_0c a1_0 a1_1 a1_2 a1_3 := by kernel_rfl
theorem Z1dd : Enters Tg 50 := ⟨Tryz.f50,Tryz.func50,by kernel_rfl,by kernel_rfl⟩
theorem Z1de {ds : List D} {d : D} (h : funD Tg Z3n M 4 Z1t Tryz.f50 ds = some d) : DataSem Tg 50 ds d := Z0 (H := Z3n) SpOk.nil mixed InlOk.nil Tryz.func50 Z1dd h
noncomputable def Z59 : List D → Option D
 | [.v (.int .i64 a0),.agg [.list a1_0n a1_0c a1_0,.v (.bool a1_1),.v (.bool a1_2),.v (.bool a1_3)]] => Zqg M a0 a1_0n a1_0c a1_0 a1_1 a1_2 a1_3
 | _ => none
theorem Z1df : ∀ ds d,Z59 ds = some d → DataSem Tg 50 ds d := by
 intro ds d h
 unfold Z59 at h
 split at h
 ·exact Z1de ((Z19k M _ _ _ _ _ _ _).trans h)
 ·cases h
end Go.Ev