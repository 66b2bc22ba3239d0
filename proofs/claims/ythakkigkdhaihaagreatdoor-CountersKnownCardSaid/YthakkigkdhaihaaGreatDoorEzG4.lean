/- Functions of the given program in plain form,printed: each with the proof that it is what the evaluator comes to,and that the program function returns what it says. No conditions. -/
import Derived.Test.YthakkigkdhaihaaGreatDoorEzG3
set_option linter.unusedVariables false
set_option maxRecDepth 100000
namespace Go.Ev
open Go Go.Proofs
def Zcm : FnH := ⟨[],[]⟩
noncomputable def Zq9 : Hints := ⟨[],[],[]⟩
noncomputable def Zx1 (m : Nat) (a0 : Int) (a1 : Int) (a2 : Int) : Option D :=
 some (D.agg [(D.v (.int .i64 a0)),(D.v (.int .i64 a1)),(D.v (.int .i64 a2))])
theorem Z11g (m : Nat) (a0 : Int) (a1 : Int) (a2 : Int) : funD Tg Zq9 m 4 Zcm Tryz.f11 [(D.v (.int .i64 a0)),(D.v (.int .i64 a1)),(D.v (.int .i64 a2))] = Zx1 m a0 a1 a2 := by kernel_rfl
theorem Z15a : Enters Tg 11 := ⟨Tryz.f11,Tryz.func11,by kernel_rfl,by kernel_rfl⟩
theorem Z15b {ds : List D} {d : D} (h : funD Tg Zq9 M 4 Zcm Tryz.f11 ds = some d) : DataSem Tg 11 ds d := Zo (H := Zq9) SpOk.nil mixed InlOk.nil Tryz.func11 Z15a h
noncomputable def Z1m : List D → Option D
 | [.v (.int .i64 a0),.v (.int .i64 a1),.v (.int .i64 a2)] => Zx1 M a0 a1 a2
 | _ => none
theorem Zo4 : ∀ ds d,Z1m ds = some d → DataSem Tg 11 ds d := by
 intro ds d h
 unfold Z1m at h
 split at h
 ·exact Z15b ((Z11g M _ _ _).trans h)
 ·cases h
def Zcn : FnH := ⟨[],[]⟩
noncomputable def Zqa : Hints := ⟨[],[],[]⟩
noncomputable def Zx2 (m : Nat)  : Option D :=
 some (D.agg [(D.v (.bool false)),(D.v (.bool false)),(D.list 0 (some 0) []),(D.v (.bool false)),(D.list 0 (some 0) []),(D.v (.int .i64 (-1 : Int))),(D.v (.int .i64 (-1 : Int))),(D.v (.int .i64 (-1 : Int)))])
theorem Z11h (m : Nat)  : funD Tg Zqa m 4 Zcn Tryz.f7 [] = Zx2 m  := by kernel_rfl
theorem Z15c : Enters Tg 7 := ⟨Tryz.f7,Tryz.func7,by kernel_rfl,by kernel_rfl⟩
theorem Z15d {ds : List D} {d : D} (h : funD Tg Zqa M 4 Zcn Tryz.f7 ds = some d) : DataSem Tg 7 ds d := Zo (H := Zqa) SpOk.nil mixed InlOk.nil Tryz.func7 Z15c h
noncomputable def Z1u : List D → Option D
 | [] => Zx2 M 
 | _ => none
theorem Zo5 : ∀ ds d,Z1u ds = some d → DataSem Tg 7 ds d := by
 intro ds d h
 unfold Z1u at h
 split at h
 ·exact Z15d ((Z11h M ).trans h)
 ·cases h
def Zco : FnH := ⟨[],[]⟩
noncomputable def Zqb : Hints := ⟨[(7,Z1u)],[],[]⟩
noncomputable def Zx3 (m : Nat)  : Option D :=
 (Z1u []).bind fun d1 =>
 (rdA (some d1)).bind fun c2 =>
 (Z1u []).bind fun d3 =>
 (rdA (some d3)).bind fun c4 =>
 (Z1u []).bind fun d5 =>
 (rdA (some d5)).bind fun c6 =>
 if (List.length c2) = 8 then
 if (List.length c4) = 8 then
 if (List.length c6) = 8 then
 some (D.list 3 (some 3) (List.set (List.set (List.set (List.set (putL 24 (putL 24 (putL 24 [(D.v (.bool false)),(D.v (.bool false)),(D.list 0 (some 0) []),(D.v (.bool false)),(D.list 0 (some 0) []),zI,zI,zI,(D.v (.bool false)),(D.v (.bool false)),(D.list 0 (some 0) []),(D.v (.bool false)),(D.list 0 (some 0) []),zI,zI,zI,(D.v (.bool false)),(D.v (.bool false)),(D.list 0 (some 0) []),(D.v (.bool false)),(D.list 0 (some 0) []),zI,zI,zI] 0 8 c2) 8 8 c4) 16 8 c6) 5 (D.v (.int .i64 (1 : Int)))) 8 (D.v (.bool true))) 15 zI) 21 zI))
 else none
 else none
 else none
theorem Z11i (m : Nat)  : funD Tg Zqb m 4 Zco Tryz.f53 [] = Zx3 m  := by kernel_rfl
theorem Z15e : Enters Tg 53 := ⟨Tryz.f53,Tryz.func53,by kernel_rfl,by kernel_rfl⟩
theorem Z15f {ds : List D} {d : D} (h : funD Tg Zqb M 4 Zco Tryz.f53 ds = some d) : DataSem Tg 53 ds d := Zo (H := Zqb) (SpOk.cons Zo5 SpOk.nil) mixed InlOk.nil Tryz.func53 Z15e h
noncomputable def Zek : List D → Option D
 | [] => Zx3 M 
 | _ => none
theorem Z15g : ∀ ds d,Zek ds = some d → DataSem Tg 53 ds d := by
 intro ds d h
 unfold Zek at h
 split at h
 ·exact Z15f ((Z11i M ).trans h)
 ·cases h
def Z4f : FnH := ⟨[],[(6,⟨(bm 0 173),[],(some 0),none⟩),(10,⟨(bm 0 173),[],(some 0),none⟩)]⟩
noncomputable def Z8w : Hints := ⟨[(7,Z1u),(8,Z4c),(9,Z18),(10,Z1g),(11,Z1m),(52,Zdm),(53,Zek),(54,Zkf),(55,Z7s)],[],[]⟩
noncomputable def Z11j (m : Nat)  : Option D :=
 cutK m (codeK Tg Z8w.sp ⟨0,[],false,[]⟩ (inlK Tg Z8w m 4) m Z4f (subc [1,1,1,1,1] (bodyOf Tryz.f15)) ⟨[Jk,Jk,Jk,Jk,Jk,Jk,Jk,Jk,Jk,Jk,Jk,Jk,Jk,Jk,Jk,Jk,Jk,Jk,Jk,Jk,Jk,Jk,Jk,Jk,Jk,Jk,Jk,Jk,Jk,Jk,Jk,Jk,Jk,Jk,Jk,Jk,Jk,Jk,Jk,Jk,Jk,Jk,Jk,Jk,Jk,Jk,Jk,Jk,Jk,Jk,Jk,Jk,Jk,Jk,Jk,Jk,Jk,Jk,Jk,Jk,Jk,Jk,Jk,Jk,Jk,Jk,Jk,Jk,Jk,Jk,Jk,Jk,Jk,Jk,Jk,Jk,Jk,Jk,Jk,Jk,Jk,Jk,Jk,Jk,Jk,Jk,Jk,Jk,Jk,Jk,Jk,Jk,Jk,Jk,Jk,Jk,Jk,Jk,Jk,Jk,Jk,Jk,Jk,Jk,Jk,Jk,Jk,Jk,Jk,Jk,Jk,Jk,Jk,Jk,Jk,Jk,Jk,Jk,Jk,Jk,Jk,Jk,Jk,Jk,Jk,Jk,Jk,Jk,Jk,Jk,Jk,Jk,Jk,Jk,Jk,Jk,Jk,Jk,Jk,Jk,Jk,Jk,Jk,Jk,Jk,Jk,Jk,Jk,Jk,Jk,Jk,Jk,Jk,Jk,Jk,Jk,Jk,Jk,Jk,Jk,Jk,Jk,Jk,Jk,Jk,Jk,Jk,Jk,Jk,Jk,Jk,Jk,Jk],[]⟩
  (contK Tg Z8w.sp ⟨0,[],false,[]⟩ (inlK Tg Z8w m 4) m Z4f (endK Tg Tryz.f15 endV) []))
noncomputable def Zx4 (m : Nat)  : Option D :=
 (Zdm [(D.v (.int .i64 (3 : Int))),(D.agg [(D.list 0 (some 0) []),(D.v (.bool false)),(D.v (.bool false)),(D.v (.bool false))])]).bind fun d1 =>
 (rdT d1).bind fun r2 =>
 if List.length r2 = 2 then
 (rdA r2[0]?).bind fun c3 =>
 (rdI .i64 r2[1]?).bind fun x4 =>
 if (List.length c3) = 3 then
 (Zek []).bind fun d5 =>
 (rdL (some d5)).bind fun q6 =>
 (Z4c [(D.list q6.n q6.cap q6.cs),(D.agg [(D.list 0 (some 0) []),(D.v (.bool false)),(D.v (.bool false)),(D.v (.bool false))])]).bind fun d7 =>
 (rdT d7).bind fun r8 =>
 if List.length r8 = 2 then
 (rdL r8[0]?).bind fun q9 =>
 (rdI .i64 r8[1]?).bind fun x10 =>
 (Zek []).bind fun d11 =>
 (rdL (some d11)).bind fun q12 =>
 (Z18 [(D.list q12.n q12.cap q12.cs),(D.agg [(D.list 0 (some 0) []),(D.v (.bool false)),(D.v (.bool false)),(D.v (.bool false))])]).bind fun d13 =>
 (rdT d13).bind fun r14 =>
 if List.length r14 = 2 then
 (rdI .i64 r14[0]?).bind fun x15 =>
 (rdI .i64 r14[1]?).bind fun x16 =>
 cond (x4 != (0 : Int))
 (some (D.v (.bool false)))
 (cond (x10 != (0 : Int))
 (some (D.v (.bool false)))
 (cond (x16 != (0 : Int))
 (some (D.v (.bool false)))
 ((Z1m [(D.v (.int .i64 (4 : Int))),(D.v (.int .i64 (4 : Int))),(D.v (.int .i64 (4 : Int)))]).bind fun d17 =>
 (rdA (some d17)).bind fun c18 =>
 (cellsEq [.int,.int,.int] c3 c18).bind fun b19 =>
 cond (!b19)
 (some (D.v (.bool false)))
 (cond ((q9.n : Int) != (3 : Int))
 (some (D.v (.bool false)))
 (if 0 ≤ (0 : Int) ∧ (0 : Int) < (q9.n : Int) then
 if 3 ≤ (List.length q9.cs) then
 (Z1m [(D.v (.int .i64 (4 : Int))),(D.v (.int .i64 (4 : Int))),(D.v (.int .i64 (4 : Int)))]).bind fun d20 =>
 (rdA (some d20)).bind fun c21 =>
 (cellsEq [.int,.int,.int] ((List.drop 0 q9.cs).take 3) c21).bind fun b22 =>
 cond (!b22)
 (some (D.v (.bool false)))
 (if 0 ≤ (1 : Int) ∧ (1 : Int) < (q9.n : Int) then
 if 6 ≤ (List.length q9.cs) then
 (Z1m [(D.v (.int .i64 (1 : Int))),(D.v (.int .i64 (3 : Int))),(D.v (.int .i64 (3 : Int)))]).bind fun d23 =>
 (rdA (some d23)).bind fun c24 =>
 (cellsEq [.int,.int,.int] ((List.drop 3 q9.cs).take 3) c24).bind fun b25 =>
 cond (!b25)
 (some (D.v (.bool false)))
 (if 0 ≤ (2 : Int) ∧ (2 : Int) < (q9.n : Int) then
 if 9 ≤ (List.length q9.cs) then
 (Z1m [(D.v (.int .i64 (1 : Int))),(D.v (.int .i64 (3 : Int))),zI]).bind fun d26 =>
 (rdA (some d26)).bind fun c27 =>
 (cellsEq [.int,.int,.int] ((List.drop 6 q9.cs).take 3) c27).bind fun b28 =>
 cond (!b28)
 (some (D.v (.bool false)))
 (cond (x15 != (0 : Int))
 (some (D.v (.bool false)))
 (Z11j m ))
 else none
 else none)
 else none
 else none)
 else none
 else none)))))
 else none
 else none
 else none
 else none
theorem Z11k (m : Nat)  : funD Tg Z8w m 4 Z4f Tryz.f15 [] = Zx4 m  := by kernel_rfl
theorem Z15h : Enters Tg 15 := ⟨Tryz.f15,Tryz.func15,by kernel_rfl,by kernel_rfl⟩
theorem Z15i {ds : List D} {d : D} (h : funD Tg Z8w M 4 Z4f Tryz.f15 ds = some d) : DataSem Tg 15 ds d := Zo (H := Z8w) (SpOk.cons Zo5 (SpOk.cons Zls (SpOk.cons Zik (SpOk.cons Zkh (SpOk.cons Zo4 (SpOk.cons Zyr (SpOk.cons Z15g (SpOk.cons Z11b (SpOk.cons Zor SpOk.nil))))))))) mixed InlOk.nil Tryz.func15 Z15h h
noncomputable def Z1n : List D → Option D
 | [] => Zx4 M 
 | _ => none
theorem Zj0 : ∀ ds d,Z1n ds = some d → DataSem Tg 15 ds d := by
 intro ds d h
 unfold Z1n at h
 split at h
 ·exact Z15i ((Z11k M ).trans h)
 ·cases h
end Go.Ev