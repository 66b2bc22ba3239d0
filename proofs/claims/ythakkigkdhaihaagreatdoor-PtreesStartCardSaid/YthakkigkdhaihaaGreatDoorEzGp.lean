/- Functions of the given program in plain form,printed: each with the proof that it is what the evaluator comes to,and that the program function returns what it says. No conditions. -/
import Derived.Test.YthakkigkdhaihaaGreatDoorEzHd
set_option linter.unusedVariables false
set_option maxRecDepth 100000
namespace Go.Ev
open Go Go.Proofs
def Z2i : FnH := ⟨[(4,⟨(bm 35 26),[],(some 0),none⟩)],[]⟩
noncomputable def Z5s : Hints := ⟨[],[],[]⟩
noncomputable def Zcs (m n0 : Nat) (Zlk : Nat) (Zpz : Option Nat) (Zp8 : List D) (Zns : Nat) (Zys : Option Nat) (Z1jg : List D) (Z1f6 : Int) : Option D :=
 Ziu (bm 35 26) 0 0 (codeK Tg Z5s.sp ⟨0,[],false,[]⟩ (inlK Tg Z5s m 8) m Z2i (subc [1,1,0,1,0,0] (bodyOf Tryz.f37))) n0 ⟨[(AV.d (D.list Zlk Zpz Zp8)),(AV.d (D.list Zns Zys Z1jg)),Jk,Jk,Jk,(AV.d (D.v (.int .i64 Z1f6))),Jk,Jk,Jk,Jk,Jk,Jk,Jk,Jk,Jk,Jk,Jk,Jk,Jk,Jk,Jk,Jk,Jk,Jk,Jk,Jk],[]⟩
  (contK Tg Z5s.sp ⟨0,[],false,[]⟩ (inlK Tg Z5s m 8) m Z2i (endK Tg Tryz.f37 endV) [.block 0,.code (subc [1,1,1] (bodyOf Tryz.f37))])
theorem Z14z (m n0 : Nat) (Zlk : Nat) (Zpz : Option Nat) (Zp8 : List D) (Zns : Nat) (Zys : Option Nat) (Z1jg : List D) (Z1f6 : Int) : Zcs m (n0 + 1) Zlk Zpz Zp8 Zns Zys Z1jg Z1f6 =
 (cond (decide (Z1f6 < (Zlk : Int)))
 (if 0 ≤ Z1f6 ∧ Z1f6 < (Zlk : Int) then
 if (((Int.toNat Z1f6) * 17) + 17) ≤ (List.length Zp8) then
 if 0 ≤ Z1f6 ∧ Z1f6 < (Zns : Int) then
 if (((Int.toNat Z1f6) * 17) + 17) ≤ (List.length Z1jg) then
 (cellsEq [.int,.int,.int,.int,.int,.int,.int,.int,.int,.int,.int,.int,.int,.int,.int,.int,.int] ((List.drop ((Int.toNat Z1f6) * 17) Zp8).take 17) ((List.drop ((Int.toNat Z1f6) * 17) Z1jg).take 17)).bind fun b3 =>
 cond (!b3)
 (some zI)
 (Zcs m n0 Zlk Zpz Zp8 Zns Zys Z1jg (IntKind.wrap .i64 (Z1f6 + (1 : Int))))
 else none
 else none
 else none
 else none)
 (some (D.v (.int .i64 (1 : Int))))) := by kernel_rfl
noncomputable def Zke (m : Nat) (a0n : Nat) (a0c : Option Nat) (a0 : List D) (a1n : Nat) (a1c : Option Nat) (a1 : List D) : Option D :=
 cond ((a0n : Int) != (a1n : Int))
 (some zI)
 (Zcs m m a0n a0c a0 a1n a1c a1 (0 : Int))
theorem Z16z (m : Nat) (a0n : Nat) (a0c : Option Nat) (a0 : List D) (a1n : Nat) (a1c : Option Nat) (a1 : List D) : funD Tg Z5s m 8 Z2i Tryz.f37 [(D.list a0n a0c a0),(D.list a1n a1c a1)] = Zke m a0n a0c a0 a1n a1c a1 := by kernel_rfl
theorem Z1am : Enters Tg 37 := ⟨Tryz.f37,Tryz.func37,by kernel_rfl,by kernel_rfl⟩
theorem Z1an {ds : List D} {d : D} (h : funD Tg Z5s M 8 Z2i Tryz.f37 ds = some d) : DataSem Tg 37 ds d := Z0 (H := Z5s) SpOk.nil mixed InlOk.nil Tryz.func37 Z1am h
noncomputable def Z9a : List D → Option D
 | [.list a0n a0c a0,.list a1n a1c a1] => Zke M a0n a0c a0 a1n a1c a1
 | _ => none
theorem Z1ao : ∀ ds d,Z9a ds = some d → DataSem Tg 37 ds d := by
 intro ds d h
 unfold Z9a at h
 split at h
 ·exact Z1an ((Z16z M _ _ _ _ _ _).trans h)
 ·cases h
def Z39 : FnH := ⟨[],[]⟩
noncomputable def Z9q : Hints := ⟨[],[],[]⟩
noncomputable def Z5t (m : Nat) (a0n : Nat) (a0c : Option Nat) (a0 : List D) : Option D :=
 cond ((a0n : Int) == (0 : Int))
 (some (D.list 0 (some 0) []))
 (if 0 ≤ (0 : Int) ∧ (0 : Int) ≤ (a0n : Int) ∧ Zmr (Int.toNat (a0n : Int)) 68 then
 if (List.length a0) = (a0n * 17) then
 if (0 + a0n) ≤ (Int.toNat (a0n : Int)) then
 (if (0 + ((0 + a0n) * 17)) ≤ ((Int.toNat (a0n : Int)) * 17) ∧ (List.length a0) = (a0n * 17) then
 if (0 + ((0 + a0n) * 17)) ≤ ((Int.toNat (a0n : Int)) * 17) then
 some (D.list (0 + a0n) (some (Int.toNat (a0n : Int))) (cutL ((Int.toNat (a0n : Int)) * 17) (List.take 0 (List.flatten (List.replicate (Int.toNat (a0n : Int)) [(D.v (.int .u8 (0 : Int))),zU,zU,zU,zU,zU,zU,zU,zU,zU,zU,zU,zU,zU,zU,zU,zU])) ++ (a0 ++ List.drop (0 + ((0 + a0n) * 17)) (List.flatten (List.replicate (Int.toNat (a0n : Int)) [(D.v (.int .u8 (0 : Int))),zU,zU,zU,zU,zU,zU,zU,zU,zU,zU,zU,zU,zU,zU,zU,zU])))) 0 ((0 + a0n) * 17)))
 else none
 else none)
 else
 (if Zmr (0 + a0n) 68 ∧ (List.length a0) = (a0n * 17) then
 if 0 ≤ ((Int.toNat (a0n : Int)) * 17) then
 if (0 + ((0 + a0n) * 17)) ≤ ((0 + a0n) * 17) then
 some (D.list (0 + a0n) none (cutL ((0 + a0n) * 17) ((cutL ((Int.toNat (a0n : Int)) * 17) (List.flatten (List.replicate (Int.toNat (a0n : Int)) [(D.v (.int .u8 (0 : Int))),zU,zU,zU,zU,zU,zU,zU,zU,zU,zU,zU,zU,zU,zU,zU,zU])) 0 0) ++ a0) 0 ((0 + a0n) * 17)))
 else none
 else none
 else none)
 else none
 else none)
theorem Zvd (m : Nat) (a0n : Nat) (a0c : Option Nat) (a0 : List D) : funD Tg Z9q m 8 Z39 Tryz.f63 [(D.list a0n a0c a0)] = Z5t m a0n a0c a0 := by kernel_rfl
theorem Zyk : Enters Tg 63 := ⟨Tryz.f63,Tryz.func63,by kernel_rfl,by kernel_rfl⟩
theorem Zyl {ds : List D} {d : D} (h : funD Tg Z9q M 8 Z39 Tryz.f63 ds = some d) : DataSem Tg 63 ds d := Z0 (H := Z9q) SpOk.nil mixed InlOk.nil Tryz.func63 Zyk h
noncomputable def Zr : List D → Option D
 | [.list a0n a0c a0] => Z5t M a0n a0c a0
 | _ => none
theorem Zkf : ∀ ds d,Zr ds = some d → DataSem Tg 63 ds d := by
 intro ds d h
 unfold Zr at h
 split at h
 ·exact Zyl ((Zvd M _ _ _).trans h)
 ·cases h
def Z9b : FnH := ⟨[],[]⟩
noncomputable def Zve : Hints := ⟨[],[],[]⟩
noncomputable def Znx (m : Nat) (a0 : Int) : Option D :=
 cond (decide (a0 < (1 : Int)))
 (some (D.v (.int .i64 (1 : Int))))
 (cond (decide (a0 > (65536 : Int)))
 (some (D.v (.int .i64 (1 : Int))))
 (some zI))
theorem Z18u (m : Nat) (a0 : Int) : funD Tg Zve m 8 Z9b Tryz.f62 [(D.v (.int .i64 a0))] = Znx m a0 := by kernel_rfl
theorem Z1cs : Enters Tg 62 := ⟨Tryz.f62,Tryz.func62,by kernel_rfl,by kernel_rfl⟩
theorem Z1ct {ds : List D} {d : D} (h : funD Tg Zve M 8 Z9b Tryz.f62 ds = some d) : DataSem Tg 62 ds d := Z0 (H := Zve) SpOk.nil mixed InlOk.nil Tryz.func62 Z1cs h
noncomputable def Z4q : List D → Option D
 | [.v (.int .i64 a0)] => Znx M a0
 | _ => none
theorem Z1cu : ∀ ds d,Z4q ds = some d → DataSem Tg 62 ds d := by
 intro ds d h
 unfold Z4q at h
 split at h
 ·exact Z1ct ((Z18u M _).trans h)
 ·cases h
def Z31 : FnH := ⟨[],[(4,⟨(bm 853 34),[],(some 3),none⟩)]⟩
noncomputable def Z6i (Zp Z16 Zc Z20 : List D → Option D) : Hints := ⟨[(52,Zp),(62,Z16),(63,Zc),(64,Z20)],[],[]⟩
noncomputable def Znk (Zp Z16 Zc Z20 : List D → Option D) (m : Nat) (Zsk : Int) (Z170 : Int) (Zyu : Int) (Z15n : Nat) (Z19f : Option Nat) (Z1gh : List D) (Z1fi : Bool) (Z1fj : Bool) (Z1fk : Bool) (Z1kx : Int) (Z1gi : Int) (Z1f7 : Int) (Z1ls : Int) (Z1lt : Bool) (Z1lu : Int) (Z1lv : Bool) (Z1lw : Bool) (Z1lx : Bool) (Z1ly : Bool) (Z1lz : Bool) (Z1m0 : Bool) (Z1m1 : Int) (Z1m2 : Int) (Z1m3 : Int) (Z1m4 : Int) (Z1m5 : Int) (Z1m6 : Int) (Z1jb : List D) : Option D :=
 cutK m (codeK Tg (Z6i Zp Z16 Zc Z20).sp ⟨0,[],false,[]⟩ (inlK Tg (Z6i Zp Z16 Zc Z20) m 8) m Z31 (subc [1,1,1] (bodyOf Tryz.f17)) ⟨[(AV.d (D.v (.int .i64 Zsk))),Jk,(AV.d (D.v (.int .i64 Z170))),Jk,(AV.ptr 0 0),Jk,(AV.ptr 1 0),Jk,(AV.ptr 2 0),(AV.d (D.v (.int .i64 Zyu))),Jk,Jk,Jk,Jk,Jk,Jk,Jk,Jk,Jk,Jk,Jk,Jk,Jk,Jk,Jk,Jk,Jk,Jk,Jk,Jk,Jk,Jk,Jk,Jk],[(Blk.d 4 [(D.list Z15n Z19f Z1gh),(D.v (.bool Z1fi)),(D.v (.bool Z1fj)),(D.v (.bool Z1fk))]),(Blk.d 22 [(D.v (.int .i64 Z1kx)),(D.v (.int .i64 Z1gi)),(D.v (.int .i64 Z1f7)),(D.v (.int .i64 Z1ls)),(D.v (.bool Z1lt)),(D.v (.int .u8 Z1lu)),(D.list 0 (some 0) []),(D.v (.bool Z1lv)),(D.v (.bool Z1lw)),(D.v (.bool Z1lx)),(D.v (.bool Z1ly)),(D.v (.bool Z1lz)),(D.list 0 (some 0) []),(D.v (.bool Z1m0)),(D.list 0 (some 0) []),(D.v (.int .i64 Z1m1)),(D.v (.int .i64 Z1m2)),(D.v (.int .i64 Z1m3)),(D.list 0 (some 0) []),(D.v (.int .i64 Z1m4)),(D.v (.int .i64 Z1m5)),(D.v (.int .i64 Z1m6))]),(Blk.d 3 Z1jb)]⟩
  (contK Tg (Z6i Zp Z16 Zc Z20).sp ⟨0,[],false,[]⟩ (inlK Tg (Z6i Zp Z16 Zc Z20) m 8) m Z31 (endK Tg Tryz.f17 endV) []))
theorem Zsi (Zp Z16 Zc Z20 : List D → Option D) (m : Nat) (Zsk : Int) (Z170 : Int) (Zyu : Int) (Z15n : Nat) (Z19f : Option Nat) (Z1gh : List D) (Z1fi : Bool) (Z1fj : Bool) (Z1fk : Bool) (Z1kx : Int) (Z1gi : Int) (Z1f7 : Int) (Z1ls : Int) (Z1lt : Bool) (Z1lu : Int) (Z1lv : Bool) (Z1lw : Bool) (Z1lx : Bool) (Z1ly : Bool) (Z1lz : Bool) (Z1m0 : Bool) (Z1m1 : Int) (Z1m2 : Int) (Z1m3 : Int) (Z1m4 : Int) (Z1m5 : Int) (Z1m6 : Int) (Z1jb : List D) : Znk Zp Z16 Zc Z20 m Zsk Z170 Zyu Z15n Z19f Z1gh Z1fi Z1fj Z1fk Z1kx Z1gi Z1f7 Z1ls Z1lt Z1lu Z1lv Z1lw Z1lx Z1ly Z1lz Z1m0 Z1m1 Z1m2 Z1m3 Z1m4 Z1m5 Z1m6 Z1jb =
 (cond (Zyu != (0 : Int))
 (some (D.tup [(D.agg [zI,zI,zI,zI,(D.v (.bool false)),(D.v (.int .u8 (0 : Int))),(D.list 0 (some 0) []),(D.v (.bool false)),(D.v (.bool false)),(D.v (.bool false)),(D.v (.bool false)),(D.v (.bool false)),(D.list 0 (some 0) []),(D.v (.bool false)),(D.list 0 (some 0) []),zI,zI,zI,(D.list 0 (some 0) []),zI,zI,zI]),(D.v (.int .i64 Zyu))]))
 ((Zc [(D.list Z15n Z19f Z1gh)]).bind fun d7 =>
 (rdL (some d7)).bind fun q8 =>
 (Z20 []).bind fun d9 =>
 (rdA (some d9)).bind fun c10 =>
 if (List.length c10) = 1 then
 if (List.length Z1jb) = 3 then
 if (List.length (putL 22 (putL 22 [(D.v (.int .i64 Zsk)),zI,(D.v (.int .i64 Z170)),(D.v (.int .i64 (1 : Int))),(D.v (.bool false)),(D.v (.int .u8 (0 : Int))),(D.list q8.n q8.cap q8.cs),(D.v (.bool Z1fi)),(D.v (.bool Z1fj)),(D.v (.bool Z1fk)),(D.v (.bool false)),(D.v (.bool false)),(D.list 0 (some 0) []),(D.v (.bool false)),(D.list 0 (some 0) []),zI,zI,zI,(D.list 0 (some 0) []),zI,zI,zI] 18 1 c10) 19 3 Z1jb)) = 22 then
 some (D.tup [(D.agg (putL 22 (putL 22 [(D.v (.int .i64 Zsk)),zI,(D.v (.int .i64 Z170)),(D.v (.int .i64 (1 : Int))),(D.v (.bool false)),(D.v (.int .u8 (0 : Int))),(D.list q8.n q8.cap q8.cs),(D.v (.bool Z1fi)),(D.v (.bool Z1fj)),(D.v (.bool Z1fk)),(D.v (.bool false)),(D.v (.bool false)),(D.list 0 (some 0) []),(D.v (.bool false)),(D.list 0 (some 0) []),zI,zI,zI,(D.list 0 (some 0) []),zI,zI,zI] 18 1 c10) 19 3 Z1jb)),zI])
 else none
 else none
 else none)) := (Zms m _).trans (by kernel_rfl)
noncomputable def Zny (Zp Z16 Zc Z20 : List D → Option D) (m : Nat) (a0 : Int) (a1_0n : Nat) (a1_0c : Option Nat) (a1_0 : List D) (a1_1 : Bool) (a1_2 : Bool) (a1_3 : Bool) (a2 : Int) : Option D :=
 (Zp [(D.v (.int .i64 a0)),(D.agg [(D.list a1_0n a1_0c a1_0),(D.v (.bool a1_1)),(D.v (.bool a1_2)),(D.v (.bool a1_3))])]).bind fun d1 =>
 (rdT d1).bind fun r2 =>
 if List.length r2 = 2 then
 (rdA r2[0]?).bind fun c3 =>
 (rdI .i64 r2[1]?).bind fun x4 =>
 if (List.length c3) = 3 then
 cond (x4 == (0 : Int))
 ((Z16 [(D.v (.int .i64 a2))]).bind fun d5 =>
 (rdI .i64 (some d5)).bind fun x6 =>
 Znk Zp Z16 Zc Z20 m a0 a2 x6 a1_0n a1_0c a1_0 a1_1 a1_2 a1_3 (0 : Int) (0 : Int) (0 : Int) (0 : Int) false (0 : Int) false false false false false false (0 : Int) (0 : Int) (0 : Int) (0 : Int) (0 : Int) (0 : Int) c3)
 (Znk Zp Z16 Zc Z20 m a0 a2 x4 a1_0n a1_0c a1_0 a1_1 a1_2 a1_3 (0 : Int) (0 : Int) (0 : Int) (0 : Int) false (0 : Int) false false false false false false (0 : Int) (0 : Int) (0 : Int) (0 : Int) (0 : Int) (0 : Int) c3)
 else none
 else none
theorem Z18v (Zp Z16 Zc Z20 : List D → Option D) (m : Nat) (a0 : Int) (a1_0n : Nat) (a1_0c : Option Nat) (a1_0 : List D) (a1_1 : Bool) (a1_2 : Bool) (a1_3 : Bool) (a2 : Int) : funD Tg (Z6i Zp Z16 Zc Z20) m 8 Z31 Tryz.f17 [(D.v (.int .i64 a0)),(D.agg [(D.list a1_0n a1_0c a1_0),(D.v (.bool a1_1)),(D.v (.bool a1_2)),(D.v (.bool a1_3))]),(D.v (.int .i64 a2))] = Zny Zp Z16 Zc Z20 m a0 a1_0n a1_0c a1_0 a1_1 a1_2 a1_3 a2 := by kernel_rfl
theorem Z1cv : Enters Tg 17 := ⟨Tryz.f17,Tryz.func17,by kernel_rfl,by kernel_rfl⟩
theorem Z1cw {ds : List D} {d : D} (h : funD Tg (Z6i Z36 Z4q Zr Z8a) M 8 Z31 Tryz.f17 ds = some d) : DataSem Tg 17 ds d := Z0 (H := (Z6i Z36 Z4q Zr Z8a)) (SpOk.cons Z17w (SpOk.cons Z1cu (SpOk.cons Zkf (SpOk.cons Z1fb SpOk.nil)))) mixed InlOk.nil Tryz.func17 Z1cv h
noncomputable def Zbr : List D → Option D
 | [.v (.int .i64 a0),.agg [.list a1_0n a1_0c a1_0,.v (.bool a1_1),.v (.bool a1_2),.v (.bool a1_3)],.v (.int .i64 a2)] => Zny Z36 Z4q Zr Z8a M a0 a1_0n a1_0c a1_0 a1_1 a1_2 a1_3 a2
 | _ => none
theorem Z1cx : ∀ ds d,Zbr ds = some d → DataSem Tg 17 ds d := by
 intro ds d h
 unfold Zbr at h
 split at h
 ·exact Z1cw ((Z18v Z36 Z4q Zr Z8a M _ _ _ _ _ _ _ _).trans h)
 ·cases h
def Zbs : FnH := ⟨[],[]⟩
noncomputable def Zym (Z9f Zct : List D → Option D) : Hints := ⟨[(50,Z9f),(102,Zct)],[],[]⟩
noncomputable def Zr2 (Z9f Zct : List D → Option D) (m : Nat) (a0 : Int) (a1_0n : Nat) (a1_0c : Option Nat) (a1_0 : List D) (a1_1 : Bool) (a1_2 : Bool) (a1_3 : Bool) (a2 : Int) : Option D :=
 (Zct []).bind fun d1 =>
 (rdA (some d1)).bind fun c2 =>
 (Z9f [(D.v (.int .i64 a0)),(D.agg [(D.list a1_0n a1_0c a1_0),(D.v (.bool a1_1)),(D.v (.bool a1_2)),(D.v (.bool a1_3))])]).bind fun d3 =>
 (rdA (some d3)).bind fun c4 =>
 if (List.length c2) = 1 then
 if (List.length c4) = 3 then
 if (List.length (putL 22 (putL 22 [(D.v (.int .i64 a0)),zI,zI,(D.v (.int .i64 a2)),(D.v (.int .i64 (1 : Int))),(D.list a1_0n a1_0c a1_0),(D.v (.bool a1_1)),(D.v (.bool a1_2)),(D.v (.bool a1_3)),(D.list 0 (some 0) []),zI,zI,zI,(D.v (.bool false)),(D.v (.bool false)),(D.list 0 (some 0) []),(D.v (.bool false)),(D.list 0 (some 0) []),zI,zI,zI,(D.v (.int .u8 (0 : Int)))] 9 1 c2) 10 3 c4)) = 22 then
 some (D.agg (putL 22 (putL 22 [(D.v (.int .i64 a0)),zI,zI,(D.v (.int .i64 a2)),(D.v (.int .i64 (1 : Int))),(D.list a1_0n a1_0c a1_0),(D.v (.bool a1_1)),(D.v (.bool a1_2)),(D.v (.bool a1_3)),(D.list 0 (some 0) []),zI,zI,zI,(D.v (.bool false)),(D.v (.bool false)),(D.list 0 (some 0) []),(D.v (.bool false)),(D.list 0 (some 0) []),zI,zI,zI,(D.v (.int .u8 (0 : Int)))] 9 1 c2) 10 3 c4))
 else none
 else none
 else none
theorem Z1ap (Z9f Zct : List D → Option D) (m : Nat) (a0 : Int) (a1_0n : Nat) (a1_0c : Option Nat) (a1_0 : List D) (a1_1 : Bool) (a1_2 : Bool) (a1_3 : Bool) (a2 : Int) : funD Tg (Zym Z9f Zct) m 8 Zbs Tryz.f43 [(D.v (.int .i64 a0)),(D.agg [(D.list a1_0n a1_0c a1_0),(D.v (.bool a1_1)),(D.v (.bool a1_2)),(D.v (.bool a1_3))]),(D.v (.int .i64 a2))] = Zr2 Z9f Zct m a0 a1_0n a1_0c a1_0 a1_1 a1_2 a1_3 a2 := by kernel_rfl
theorem Z1dj : Enters Tg 43 := ⟨Tryz.f43,Tryz.func43,by kernel_rfl,by kernel_rfl⟩
theorem Z1dk {ds : List D} {d : D} (h : funD Tg (Zym Z59 Z8b) M 8 Zbs Tryz.f43 ds = some d) : DataSem Tg 43 ds d := Z0 (H := (Zym Z59 Z8b)) (SpOk.cons Z1df (SpOk.cons Z1fc SpOk.nil)) mixed InlOk.nil Tryz.func43 Z1dj h
noncomputable def Zfm : List D → Option D
 | [.v (.int .i64 a0),.agg [.list a1_0n a1_0c a1_0,.v (.bool a1_1),.v (.bool a1_2),.v (.bool a1_3)],.v (.int .i64 a2)] => Zr2 Z59 Z8b M a0 a1_0n a1_0c a1_0 a1_1 a1_2 a1_3 a2
 | _ => none
theorem Z1dl : ∀ ds d,Zfm ds = some d → DataSem Tg 43 ds d := by
 intro ds d h
 unfold Zfm at h
 split at h
 ·exact Z1dk ((Z1ap Z59 Z8b M _ _ _ _ _ _ _ _).trans h)
 ·cases h
def Z9c : FnH := ⟨[],[]⟩
noncomputable def Zvf : Hints := ⟨[(37,Z9a)],[],[]⟩
noncomputable def Znz (m : Nat) (a0_0n : Nat) (a0_0c : Option Nat) (a0_0 : List D) (a0_1 : Bool) (a0_2 : Bool) (a0_3 : Bool) (a1_0n : Nat) (a1_0c : Option Nat) (a1_0 : List D) (a1_1 : Bool) (a1_2 : Bool) (a1_3 : Bool) : Option D :=
 (Z9a [(D.list a0_0n a0_0c a0_0),(D.list a1_0n a1_0c a1_0)]).bind fun d1 =>
 (rdI .i64 (some d1)).bind fun x2 =>
 cond (x2 == (1 : Int))
 (cond (a0_1 == a1_1)
 (cond (a0_2 == a1_2)
 (some (D.v (.bool (a0_3 == a1_3))))
 (some (D.v (.bool false))))
 (some (D.v (.bool false))))
 (some (D.v (.bool false)))
theorem Z18w (m : Nat) (a0_0n : Nat) (a0_0c : Option Nat) (a0_0 : List D) (a0_1 : Bool) (a0_2 : Bool) (a0_3 : Bool) (a1_0n : Nat) (a1_0c : Option Nat) (a1_0 : List D) (a1_1 : Bool) (a1_2 : Bool) (a1_3 : Bool) : funD Tg Zvf m 8 Z9c Tryz.f98 [(D.agg [(D.list a0_0n a0_0c a0_0),(D.v (.bool a0_1)),(D.v (.bool a0_2)),(D.v (.bool a0_3))]),(D.agg [(D.list a1_0n a1_0c a1_0),(D.v (.bool a1_1)),(D.v (.bool a1_2)),(D.v (.bool a1_3))])] = Znz m a0_0n a0_0c a0_0 a0_1 a0_2 a0_3 a1_0n a1_0c a1_0 a1_1 a1_2 a1_3 := by kernel_rfl
theorem Z1cy : Enters Tg 98 := ⟨Tryz.f98,Tryz.func98,by kernel_rfl,by kernel_rfl⟩
theorem Z1cz {ds : List D} {d : D} (h : funD Tg Zvf M 8 Z9c Tryz.f98 ds = some d) : DataSem Tg 98 ds d := Z0 (H := Zvf) (SpOk.cons Z1ao SpOk.nil) mixed InlOk.nil Tryz.func98 Z1cy h
noncomputable def Z4r : List D → Option D
 | [.agg [.list a0_0n a0_0c a0_0,.v (.bool a0_1),.v (.bool a0_2),.v (.bool a0_3)],.agg [.list a1_0n a1_0c a1_0,.v (.bool a1_1),.v (.bool a1_2),.v (.bool a1_3)]] => Znz M a0_0n a0_0c a0_0 a0_1 a0_2 a0_3 a1_0n a1_0c a1_0 a1_1 a1_2 a1_3
 | _ => none
theorem Z1d0 : ∀ ds d,Z4r ds = some d → DataSem Tg 98 ds d := by
 intro ds d h
 unfold Z4r at h
 split at h
 ·exact Z1cz ((Z18w M _ _ _ _ _ _ _ _ _ _ _ _).trans h)
 ·cases h
def Z4s : FnH := ⟨[],[]⟩
noncomputable def Zha : Hints := ⟨[(92,Zbq)],[],[]⟩
noncomputable def Z4a (m : Nat) (a0 : List D) : Option D :=
 if (List.length a0) = 22 then
 (Zbq [(D.agg ((List.drop 18 a0).take 1)),(D.list 0 (some 0) [])]).bind fun d1 =>
 (rdT d1).bind fun r2 =>
 if List.length r2 = 2 then
 (rdA r2[0]?).bind fun c3 =>
 (rdI .i64 r2[1]?).bind fun x4 =>
 if (List.length c3) = 1 then
 if (List.length c3) = 1 then
 some (D.agg c3)
 else none
 else none
 else none
 else none
theorem Z11g (m : Nat) (a0 : List D) : funD Tg Zha m 8 Z4s Tryz.f31 [(D.agg a0)] = Z4a m a0 := by kernel_rfl
theorem Z140 : Enters Tg 31 := ⟨Tryz.f31,Tryz.func31,by kernel_rfl,by kernel_rfl⟩
theorem Z141 {ds : List D} {d : D} (h : funD Tg Zha M 8 Z4s Tryz.f31 ds = some d) : DataSem Tg 31 ds d := Z0 (H := Zha) (SpOk.cons Z1cr SpOk.nil) mixed InlOk.nil Tryz.func31 Z140 h
noncomputable def Zy : List D → Option D
 | [.agg a0] => Z4a M a0
 | _ => none
theorem Zqb : ∀ ds d,Zy ds = some d → DataSem Tg 31 ds d := by
 intro ds d h
 unfold Zy at h
 split at h
 ·exact Z141 ((Z11g M _).trans h)
 ·cases h
def Z2z : FnH := ⟨[],[]⟩
noncomputable def Z8e : Hints := ⟨[],[],[]⟩
noncomputable def Zkg (m : Nat) (a0 : List D) : Option D :=
 if (List.length a0) = 22 then
 if (List.length ((List.drop 19 a0).take 3)) = 3 then
 some (D.agg ((List.drop 19 a0).take 3))
 else none
 else none
theorem Zsu (m : Nat) (a0 : List D) : funD Tg Z8e m 8 Z2z Tryz.f95 [(D.agg a0)] = Zkg m a0 := by kernel_rfl
theorem Zxm : Enters Tg 95 := ⟨Tryz.f95,Tryz.func95,by kernel_rfl,by kernel_rfl⟩
theorem Zxn {ds : List D} {d : D} (h : funD Tg Z8e M 8 Z2z Tryz.f95 ds = some d) : DataSem Tg 95 ds d := Z0 (H := Z8e) SpOk.nil mixed InlOk.nil Tryz.func95 Zxm h
noncomputable def Z19 : List D → Option D
 | [.agg a0] => Zkg M a0
 | _ => none
theorem Zxo : ∀ ds d,Z19 ds = some d → DataSem Tg 95 ds d := by
 intro ds d h
 unfold Z19 at h
 split at h
 ·exact Zxn ((Zsu M _).trans h)
 ·cases h
def Z46 : FnH := ⟨[],[]⟩
noncomputable def Zeb : Hints := ⟨[],[],[]⟩
noncomputable def Zqc (m : Nat) (a0 : List D) : Option D :=
 if (List.length a0) = 22 then
 (rdI .i64 a0[1]?).bind fun x1 =>
 some (D.v (.int .i64 x1))
 else none
theorem Zyn (m : Nat) (a0 : List D) : funD Tg Zeb m 8 Z46 Tryz.f24 [(D.agg a0)] = Zqc m a0 := by kernel_rfl
theorem Z13i : Enters Tg 24 := ⟨Tryz.f24,Tryz.func24,by kernel_rfl,by kernel_rfl⟩
theorem Z13j {ds : List D} {d : D} (h : funD Tg Zeb M 8 Z46 Tryz.f24 ds = some d) : DataSem Tg 24 ds d := Z0 (H := Zeb) SpOk.nil mixed InlOk.nil Tryz.func24 Z13i h
noncomputable def Z13 : List D → Option D
 | [.agg a0] => Zqc M a0
 | _ => none
theorem Zp3 : ∀ ds d,Z13 ds = some d → DataSem Tg 24 ds d := by
 intro ds d h
 unfold Z13 at h
 split at h
 ·exact Z13j ((Zyn M _).trans h)
 ·cases h
def Z3a : FnH := ⟨[],[]⟩
noncomputable def Z9r : Hints := ⟨[],[],[]⟩
noncomputable def Zmq (m : Nat) (a0 : List D) : Option D :=
 if (List.length a0) = 22 then
 (rdB a0[4]?).bind fun b1 =>
 some (D.v (.bool b1))
 else none
theorem Zvg (m : Nat) (a0 : List D) : funD Tg Z9r m 8 Z3a Tryz.f27 [(D.agg a0)] = Zmq m a0 := by kernel_rfl
theorem Zyo : Enters Tg 27 := ⟨Tryz.f27,Tryz.func27,by kernel_rfl,by kernel_rfl⟩
theorem Zyp {ds : List D} {d : D} (h : funD Tg Z9r M 8 Z3a Tryz.f27 ds = some d) : DataSem Tg 27 ds d := Z0 (H := Z9r) SpOk.nil mixed InlOk.nil Tryz.func27 Zyo h
noncomputable def Z1f : List D → Option D
 | [.agg a0] => Zmq M a0
 | _ => none
theorem Zyq : ∀ ds d,Z1f ds = some d → DataSem Tg 27 ds d := by
 intro ds d h
 unfold Z1f at h
 split at h
 ·exact Zyp ((Zvg M _).trans h)
 ·cases h
def Z3q : FnH := ⟨[],[]⟩
noncomputable def Zbt : Hints := ⟨[],[],[]⟩
noncomputable def Zp4 (m : Nat) (a0 : List D) : Option D :=
 if (List.length a0) = 22 then
 (rdI .u8 a0[5]?).bind fun x1 =>
 some (D.v (.int .u8 x1))
 else none
theorem Zxp (m : Nat) (a0 : List D) : funD Tg Zbt m 8 Z3q Tryz.f29 [(D.agg a0)] = Zp4 m a0 := by kernel_rfl
theorem Z11h : Enters Tg 29 := ⟨Tryz.f29,Tryz.func29,by kernel_rfl,by kernel_rfl⟩
theorem Z11i {ds : List D} {d : D} (h : funD Tg Zbt M 8 Z3q Tryz.f29 ds = some d) : DataSem Tg 29 ds d := Z0 (H := Zbt) SpOk.nil mixed InlOk.nil Tryz.func29 Z11h h
noncomputable def Z1m : List D → Option D
 | [.agg a0] => Zp4 M a0
 | _ => none
theorem Z11j : ∀ ds d,Z1m ds = some d → DataSem Tg 29 ds d := by
 intro ds d h
 unfold Z1m at h
 split at h
 ·exact Z11i ((Zxp M _).trans h)
 ·cases h
def Z4t : FnH := ⟨[],[]⟩
noncomputable def Zhb : Hints := ⟨[],[],[]⟩
noncomputable def Zsj (m : Nat) (a0 : List D) : Option D :=
 if (List.length a0) = 22 then
 (rdI .i64 a0[3]?).bind fun x1 =>
 some (D.v (.int .i64 x1))
 else none
theorem Z11k (m : Nat) (a0 : List D) : funD Tg Zhb m 8 Z4t Tryz.f41 [(D.agg a0)] = Zsj m a0 := by kernel_rfl
theorem Z142 : Enters Tg 41 := ⟨Tryz.f41,Tryz.func41,by kernel_rfl,by kernel_rfl⟩
theorem Z143 {ds : List D} {d : D} (h : funD Tg Zhb M 8 Z4t Tryz.f41 ds = some d) : DataSem Tg 41 ds d := Z0 (H := Zhb) SpOk.nil mixed InlOk.nil Tryz.func41 Z142 h
noncomputable def Z1a : List D → Option D
 | [.agg a0] => Zsj M a0
 | _ => none
theorem Zqd : ∀ ds d,Z1a ds = some d → DataSem Tg 41 ds d := by
 intro ds d h
 unfold Z1a at h
 split at h
 ·exact Z143 ((Z11k M _).trans h)
 ·cases h
def Z3r : FnH := ⟨[],[]⟩
noncomputable def Zbu : Hints := ⟨[],[],[]⟩
noncomputable def Zp5 (m : Nat) (a0 : List D) : Option D :=
 if (List.length a0) = 22 then
 (rdI .i64 a0[0]?).bind fun x1 =>
 some (D.v (.int .i64 x1))
 else none
theorem Zxq (m : Nat) (a0 : List D) : funD Tg Zbu m 8 Z3r Tryz.f96 [(D.agg a0)] = Zp5 m a0 := by kernel_rfl
theorem Z11l : Enters Tg 96 := ⟨Tryz.f96,Tryz.func96,by kernel_rfl,by kernel_rfl⟩
theorem Z11m {ds : List D} {d : D} (h : funD Tg Zbu M 8 Z3r Tryz.f96 ds = some d) : DataSem Tg 96 ds d := Z0 (H := Zbu) SpOk.nil mixed InlOk.nil Tryz.func96 Z11l h
noncomputable def Z1n : List D → Option D
 | [.agg a0] => Zp5 M a0
 | _ => none
theorem Z11n : ∀ ds d,Z1n ds = some d → DataSem Tg 96 ds d := by
 intro ds d h
 unfold Z1n at h
 split at h
 ·exact Z11m ((Zxq M _).trans h)
 ·cases h
def Z3s : FnH := ⟨[],[]⟩
noncomputable def Zbv : Hints := ⟨[],[],[]⟩
noncomputable def Zp6 (m : Nat) (a0 : List D) : Option D :=
 if (List.length a0) = 22 then
 (rdI .i64 a0[2]?).bind fun x1 =>
 some (D.v (.int .i64 x1))
 else none
theorem Zxr (m : Nat) (a0 : List D) : funD Tg Zbv m 8 Z3s Tryz.f97 [(D.agg a0)] = Zp6 m a0 := by kernel_rfl
theorem Z11o : Enters Tg 97 := ⟨Tryz.f97,Tryz.func97,by kernel_rfl,by kernel_rfl⟩
theorem Z11p {ds : List D} {d : D} (h : funD Tg Zbv M 8 Z3s Tryz.f97 ds = some d) : DataSem Tg 97 ds d := Z0 (H := Zbv) SpOk.nil mixed InlOk.nil Tryz.func97 Z11o h
noncomputable def Z1o : List D → Option D
 | [.agg a0] => Zp6 M a0
 | _ => none
theorem Z11q : ∀ ds d,Z1o ds = some d → DataSem Tg 97 ds d := by
 intro ds d h
 unfold Z1o at h
 split at h
 ·exact Z11p ((Zxr M _).trans h)
 ·cases h
def Z3t : FnH := ⟨[],[]⟩
noncomputable def Zbw : Hints := ⟨[(63,Zr)],[],[]⟩
noncomputable def Z6g (m : Nat) (a0 : List D) : Option D :=
 if (List.length a0) = 22 then
 if (List.length ((List.drop 6 a0).take 4)) = 4 then
 (rdL ((List.drop 6 a0).take 4)[0]?).bind fun q1 =>
 (Zr [(D.list q1.n q1.cap q1.cs)]).bind fun d2 =>
 (rdL (some d2)).bind fun q3 =>
 if (List.length (List.set ((List.drop 6 a0).take 4) 0 (D.list q3.n q3.cap q3.cs))) = 4 then
 some (D.agg (List.set ((List.drop 6 a0).take 4) 0 (D.list q3.n q3.cap q3.cs)))
 else none
 else none
 else none
theorem Zxs (m : Nat) (a0 : List D) : funD Tg Zbw m 8 Z3t Tryz.f99 [(D.agg a0)] = Z6g m a0 := by kernel_rfl
theorem Z11r : Enters Tg 99 := ⟨Tryz.f99,Tryz.func99,by kernel_rfl,by kernel_rfl⟩
theorem Z11s {ds : List D} {d : D} (h : funD Tg Zbw M 8 Z3t Tryz.f99 ds = some d) : DataSem Tg 99 ds d := Z0 (H := Zbw) (SpOk.cons Zkf SpOk.nil) mixed InlOk.nil Tryz.func99 Z11r h
noncomputable def Z1p : List D → Option D
 | [.agg a0] => Z6g M a0
 | _ => none
theorem Z11t : ∀ ds d,Z1p ds = some d → DataSem Tg 99 ds d := by
 intro ds d h
 unfold Z1p at h
 split at h
 ·exact Z11s ((Zxs M _).trans h)
 ·cases h
def Z4u : FnH := ⟨[],[]⟩
noncomputable def Zhc : Hints := ⟨[(67,Zfv)],[],[]⟩
noncomputable def Z8f (m : Nat) (a0 : List D) : Option D :=
 if (List.length a0) = 22 then
 (Zfv [(D.agg ((List.drop 10 a0).take 8))]).bind fun d1 =>
 (rdA (some d1)).bind fun c2 =>
 if (List.length c2) = 8 then
 some (D.agg c2)
 else none
 else none
theorem Z11u (m : Nat) (a0 : List D) : funD Tg Zhc m 8 Z4u Tryz.f101 [(D.agg a0)] = Z8f m a0 := by kernel_rfl
theorem Z144 : Enters Tg 101 := ⟨Tryz.f101,Tryz.func101,by kernel_rfl,by kernel_rfl⟩
theorem Z145 {ds : List D} {d : D} (h : funD Tg Zhc M 8 Z4u Tryz.f101 ds = some d) : DataSem Tg 101 ds d := Z0 (H := Zhc) (SpOk.cons Z1al SpOk.nil) mixed InlOk.nil Tryz.func101 Z144 h
noncomputable def Z25 : List D → Option D
 | [.agg a0] => Z8f M a0
 | _ => none
theorem Z146 : ∀ ds d,Z25 ds = some d → DataSem Tg 101 ds d := by
 intro ds d h
 unfold Z25 at h
 split at h
 ·exact Z145 ((Z11u M _).trans h)
 ·cases h
def Zfn : FnH := ⟨[],[]⟩
noncomputable def Z13k (Z3b Z2j Z2o Z3w Z3x Zcu Z2b Z2p Z2q Z7i Z2r Zcv Z3y : List D → Option D) : Hints := ⟨[(24,Z3b),(27,Z2j),(29,Z2o),(31,Z3w),(41,Z3x),(61,Zcu),(95,Z2b),(96,Z2p),(97,Z2q),(98,Z7i),(99,Z2r),(100,Zcv),(101,Z3y)],[],[2000064]⟩
noncomputable def Zuj (Z3b Z2j Z2o Z3w Z3x Zcu Z2b Z2p Z2q Z7i Z2r Zcv Z3y : List D → Option D) (m : Nat) (a0 : List D) (a1 : List D) : Option D :=
 if (List.length a0) = 22 then
 if (List.length a1) = 22 then
 (Z3w [(D.agg a0)]).bind fun d1 =>
 (rdA (some d1)).bind fun c2 =>
 if (List.length c2) = 1 then
 (Zcu [(D.agg c2),(D.agg ((List.drop 9 a1).take 1))]).bind fun d3 =>
 (rdI .i64 (some d3)).bind fun x4 =>
 cond (x4 == (1 : Int))
 ((rdL c2[0]?).bind fun q5 =>
 capO (q5.cap) fun n6 =>
 (rdL c2[0]?).bind fun q7 =>
 cond ((n6 : Int) == (q7.n : Int))
 ((Z2b [(D.agg a0)]).bind fun d8 =>
 (rdA (some d8)).bind fun c9 =>
 (cellsEq [.int,.int,.int] c9 ((List.drop 10 a1).take 3)).bind fun b10 =>
 cond b10
 ((Z3b [(D.agg a0)]).bind fun d11 =>
 (rdI .i64 (some d11)).bind fun x12 =>
 (rdI .i64 a1[1]?).bind fun x13 =>
 cond (x12 == x13)
 ((Z2j [(D.agg a0)]).bind fun d14 =>
 (rdB (some d14)).bind fun b15 =>
 (rdI .i64 a1[2]?).bind fun x16 =>
 cond (b15 == (x16 == (1 : Int)))
 ((Z2o [(D.agg a0)]).bind fun d17 =>
 (rdI .u8 (some d17)).bind fun x18 =>
 (rdI .u8 a1[21]?).bind fun x19 =>
 cond (x18 == x19)
 ((Z3x [(D.agg a0)]).bind fun d20 =>
 (rdI .i64 (some d20)).bind fun x21 =>
 (rdI .i64 a1[4]?).bind fun x22 =>
 cond (x21 == x22)
 ((Z2p [(D.agg a0)]).bind fun d23 =>
 (rdI .i64 (some d23)).bind fun x24 =>
 (rdI .i64 a1[0]?).bind fun x25 =>
 cond (x24 == x25)
 ((Z2q [(D.agg a0)]).bind fun d26 =>
 (rdI .i64 (some d26)).bind fun x27 =>
 (rdI .i64 a1[3]?).bind fun x28 =>
 cond (x27 == x28)
 ((Z2r [(D.agg a0)]).bind fun d29 =>
 (rdA (some d29)).bind fun c30 =>
 (Z7i [(D.agg c30),(D.agg ((List.drop 5 a1).take 4))]).bind fun d31 =>
 (rdB (some d31)).bind fun b32 =>
 cond b32
 ((Z3y [(D.agg a0)]).bind fun d33 =>
 (rdA (some d33)).bind fun c34 =>
 (Zcv [(D.agg c34),(D.agg ((List.drop 13 a1).take 8))]).bind fun d35 =>
 (rdI .i64 (some d35)).bind fun x36 =>
 some (D.v (.bool (x36 == (1 : Int)))))
 (some (D.v (.bool false))))
 (some (D.v (.bool false))))
 (some (D.v (.bool false))))
 (some (D.v (.bool false))))
 (some (D.v (.bool false))))
 (some (D.v (.bool false))))
 (some (D.v (.bool false))))
 (some (D.v (.bool false))))
 (some (D.v (.bool false))))
 (some (D.v (.bool false)))
 else none
 else none
 else none
theorem Z1d1 (Z3b Z2j Z2o Z3w Z3x Zcu Z2b Z2p Z2q Z7i Z2r Zcv Z3y : List D → Option D) (m : Nat) (a0 : List D) (a1 : List D) : funD Tg (Z13k Z3b Z2j Z2o Z3w Z3x Zcu Z2b Z2p Z2q Z7i Z2r Zcv Z3y) m 8 Zfn Tryz.f42 [(D.agg a0),(D.agg a1)] = Zuj Z3b Z2j Z2o Z3w Z3x Zcu Z2b Z2p Z2q Z7i Z2r Zcv Z3y m a0 a1 := by kernel_rfl
theorem Z1ff : Enters Tg 42 := ⟨Tryz.f42,Tryz.func42,by kernel_rfl,by kernel_rfl⟩
theorem Z1fg {ds : List D} {d : D} (h : funD Tg (Z13k Z13 Z1f Z1m Zy Z1a Z8c Z19 Z1n Z1o Z4r Z1p Z8d Z25) M 8 Zfn Tryz.f42 ds = some d) : DataSem Tg 42 ds d := Z0 (H := (Z13k Z13 Z1f Z1m Zy Z1a Z8c Z19 Z1n Z1o Z4r Z1p Z8d Z25)) (SpOk.cons Zp3 (SpOk.cons Zyq (SpOk.cons Z11j (SpOk.cons Zqb (SpOk.cons Zqd (SpOk.cons Z1fd (SpOk.cons Zxo (SpOk.cons Z11n (SpOk.cons Z11q (SpOk.cons Z1d0 (SpOk.cons Z11t (SpOk.cons Z1fe (SpOk.cons Z146 SpOk.nil))))))))))))) mixed InlOk.nil Tryz.func42 Z1ff h
noncomputable def Zkh : List D → Option D
 | [.agg a0,.agg a1] => Zuj Z13 Z1f Z1m Zy Z1a Z8c Z19 Z1n Z1o Z4r Z1p Z8d Z25 M a0 a1
 | _ => none
theorem Z1fh : ∀ ds d,Zkh ds = some d → DataSem Tg 42 ds d := by
 intro ds d h
 unfold Zkh at h
 split at h
 ·exact Z1fg ((Z1d1 Z13 Z1f Z1m Zy Z1a Z8c Z19 Z1n Z1o Z4r Z1p Z8d Z25 M _ _).trans h)
 ·cases h
def Zb : FnH := ⟨[],[(6,⟨(bm 163 77),[],(some 1),none⟩),(8,⟨(bm 163 77),[],(some 1),none⟩),(11,⟨(bm 419 77),[],(some 2),none⟩)]⟩
noncomputable def Zf : Hints := ⟨[(16,Z9e),(17,Zbr),(22,Zee),(24,Z13),(31,Zy),(40,Zr1),(41,Z1a),(42,Zkh),(43,Zfm)],[],[2000064]⟩
noncomputable def Z2s (m : Nat) (Zsk : Int) (Z170 : Int) (Zyu : Int) (Z15n : Nat) (Z19f : Option Nat) (Z1gh : List D) (Z1fi : Bool) (Z1fj : Bool) (Z1fk : Bool) : Option D :=
 cutK m (codeK Tg Zf.sp ⟨0,[],false,[2000064]⟩ (inlK Tg Zf m 8) m Zb (subc [1,1,1,1] (bodyOf Tryz.f6)) ⟨[(AV.d (D.v (.int .i64 Zsk))),(AV.d (D.v (.int .i64 Z170))),Jk,Jk,Jk,(AV.ptr 0 0),Jk,(AV.d (D.v (.int .i64 Zyu))),Jk,Jk,Jk,Jk,Jk,Jk,Jk,Jk,Jk,Jk,Jk,Jk,Jk,Jk,Jk,Jk,Jk,Jk,Jk,Jk,Jk,Jk,Jk,Jk,Jk,Jk,Jk,Jk,Jk,Jk,Jk,Jk,Jk,Jk,Jk,Jk,Jk,Jk,Jk,Jk,Jk,Jk,Jk,Jk,Jk,Jk,Jk,Jk,Jk,Jk,Jk,Jk,Jk,Jk,Jk,Jk,Jk,Jk,Jk,Jk,Jk,Jk,Jk,Jk,Jk,Jk,Jk,Jk,Jk],[(Blk.d 4 [(D.list Z15n Z19f Z1gh),(D.v (.bool Z1fi)),(D.v (.bool Z1fj)),(D.v (.bool Z1fk))])]⟩
  (contK Tg Zf.sp ⟨0,[],false,[2000064]⟩ (inlK Tg Zf m 8) m Zb (endK Tg Tryz.f6 endV) []))
noncomputable def Z26 (m : Nat) (Z1d5 : Int) (Z1h9 : Int) (Z1ky : Int) (Z1kz : Nat) (Z1l0 : Option Nat) (Z1kj : List D) (Z1l1 : Bool) (Z1l2 : Bool) (Z1l3 : Bool) : Option D :=
 cutK m (codeK Tg Zf.sp ⟨0,[],false,[2000064]⟩ (inlK Tg Zf m 8) m Zb (subc [1,1,1,1,1] (bodyOf Tryz.f6)) ⟨[(AV.d (D.v (.int .i64 Z1d5))),(AV.d (D.v (.int .i64 Z1h9))),Jk,Jk,Jk,(AV.ptr 0 0),Jk,(AV.d (D.v (.int .i64 Z1ky))),Jk,Jk,Jk,Jk,Jk,Jk,Jk,Jk,Jk,Jk,Jk,Jk,Jk,Jk,Jk,Jk,Jk,Jk,Jk,Jk,Jk,Jk,Jk,Jk,Jk,Jk,Jk,Jk,Jk,Jk,Jk,Jk,Jk,Jk,Jk,Jk,Jk,Jk,Jk,Jk,Jk,Jk,Jk,Jk,Jk,Jk,Jk,Jk,Jk,Jk,Jk,Jk,Jk,Jk,Jk,Jk,Jk,Jk,Jk,Jk,Jk,Jk,Jk,Jk,Jk,Jk,Jk,Jk,Jk],[(Blk.d 4 [(D.list Z1kz Z1l0 Z1kj),(D.v (.bool Z1l1)),(D.v (.bool Z1l2)),(D.v (.bool Z1l3))])]⟩
  (contK Tg Zf.sp ⟨0,[],false,[2000064]⟩ (inlK Tg Zf m 8) m Zb (endK Tg Tryz.f6 endV) []))
noncomputable def Zki (m : Nat) (Z1m9 : Int) (Z1ma : Int) (Z1mb : Int) (Z1mc : Nat) (Z1md : Option Nat) (Z1me : List D) (Z1mf : Bool) (Z1mg : Bool) (Z1mh : Bool) (Z1m7 : Int) (Z1he : Int) (Z1hf : Int) (Z1hg : Int) (Z1hh : Bool) (Z1hi : Int) (Z1hj : Nat) (Z1hk : Option Nat) (Z1hl : List D) (Z1hm : Bool) (Z1hn : Bool) (Z1ho : Bool) (Z1hp : Bool) (Z1hq : Bool) (Z1hr : Nat) (Z1hs : Option Nat) (Z1ht : List D) (Z1hu : Bool) (Z1hv : Nat) (Z1hw : Option Nat) (Z1hx : List D) (Z1hy : Int) (Z1hz : Int) (Z1i0 : Int) (Z1i1 : Nat) (Z1i2 : Option Nat) (Z1i3 : List D) (Z1i4 : Int) (Z1i5 : Int) (Z1i6 : Int) : Option D :=
 cutK m (codeK Tg Zf.sp ⟨0,[],false,[2000064]⟩ (inlK Tg Zf m 8) m Zb (subc [1,1,1,1,1,1,1] (bodyOf Tryz.f6)) ⟨[(AV.d (D.v (.int .i64 Z1m9))),(AV.d (D.v (.int .i64 Z1ma))),Jk,Jk,Jk,(AV.ptr 0 0),Jk,(AV.d (D.v (.int .i64 Z1mb))),(AV.ptr 1 0),Jk,Jk,Jk,Jk,Jk,Jk,Jk,Jk,Jk,Jk,Jk,Jk,Jk,Jk,Jk,Jk,Jk,Jk,Jk,Jk,Jk,Jk,Jk,Jk,Jk,Jk,Jk,Jk,Jk,Jk,Jk,Jk,Jk,Jk,Jk,Jk,Jk,Jk,Jk,Jk,Jk,Jk,Jk,Jk,Jk,Jk,Jk,Jk,Jk,Jk,Jk,Jk,Jk,Jk,Jk,Jk,Jk,Jk,Jk,Jk,Jk,Jk,Jk,Jk,Jk,Jk,Jk,Jk],[(Blk.d 4 [(D.list Z1mc Z1md Z1me),(D.v (.bool Z1mf)),(D.v (.bool Z1mg)),(D.v (.bool Z1mh))]),(Blk.d 22 [(D.v (.int .i64 Z1m7)),(D.v (.int .i64 Z1he)),(D.v (.int .i64 Z1hf)),(D.v (.int .i64 Z1hg)),(D.v (.bool Z1hh)),(D.v (.int .u8 Z1hi)),(D.list Z1hj Z1hk Z1hl),(D.v (.bool Z1hm)),(D.v (.bool Z1hn)),(D.v (.bool Z1ho)),(D.v (.bool Z1hp)),(D.v (.bool Z1hq)),(D.list Z1hr Z1hs Z1ht),(D.v (.bool Z1hu)),(D.list Z1hv Z1hw Z1hx),(D.v (.int .i64 Z1hy)),(D.v (.int .i64 Z1hz)),(D.v (.int .i64 Z1i0)),(D.list Z1i1 Z1i2 Z1i3),(D.v (.int .i64 Z1i4)),(D.v (.int .i64 Z1i5)),(D.v (.int .i64 Z1i6))])]⟩
  (contK Tg Zf.sp ⟨0,[],false,[2000064]⟩ (inlK Tg Zf m 8) m Zb (endK Tg Tryz.f6 endV) []))
theorem Zfo (m : Nat) (Z1m9 : Int) (Z1ma : Int) (Z1mb : Int) (Z1mc : Nat) (Z1md : Option Nat) (Z1me : List D) (Z1mf : Bool) (Z1mg : Bool) (Z1mh : Bool) (Z1m7 : Int) (Z1he : Int) (Z1hf : Int) (Z1hg : Int) (Z1hh : Bool) (Z1hi : Int) (Z1hj : Nat) (Z1hk : Option Nat) (Z1hl : List D) (Z1hm : Bool) (Z1hn : Bool) (Z1ho : Bool) (Z1hp : Bool) (Z1hq : Bool) (Z1hr : Nat) (Z1hs : Option Nat) (Z1ht : List D) (Z1hu : Bool) (Z1hv : Nat) (Z1hw : Option Nat) (Z1hx : List D) (Z1hy : Int) (Z1hz : Int) (Z1i0 : Int) (Z1i1 : Nat) (Z1i2 : Option Nat) (Z1i3 : List D) (Z1i4 : Int) (Z1i5 : Int) (Z1i6 : Int) : Zki m Z1m9 Z1ma Z1mb Z1mc Z1md Z1me Z1mf Z1mg Z1mh Z1m7 Z1he Z1hf Z1hg Z1hh Z1hi Z1hj Z1hk Z1hl Z1hm Z1hn Z1ho Z1hp Z1hq Z1hr Z1hs Z1ht Z1hu Z1hv Z1hw Z1hx Z1hy Z1hz Z1i0 Z1i1 Z1i2 Z1i3 Z1i4 Z1i5 Z1i6 =
 (cond (Z1mb != (0 : Int))
 ((Z13 [(D.agg [(D.v (.int .i64 Z1m7)),(D.v (.int .i64 Z1he)),(D.v (.int .i64 Z1hf)),(D.v (.int .i64 Z1hg)),(D.v (.bool Z1hh)),(D.v (.int .u8 Z1hi)),(D.list Z1hj Z1hk Z1hl),(D.v (.bool Z1hm)),(D.v (.bool Z1hn)),(D.v (.bool Z1ho)),(D.v (.bool Z1hp)),(D.v (.bool Z1hq)),(D.list Z1hr Z1hs Z1ht),(D.v (.bool Z1hu)),(D.list Z1hv Z1hw Z1hx),(D.v (.int .i64 Z1hy)),(D.v (.int .i64 Z1hz)),(D.v (.int .i64 Z1i0)),(D.list Z1i1 Z1i2 Z1i3),(D.v (.int .i64 Z1i4)),(D.v (.int .i64 Z1i5)),(D.v (.int .i64 Z1i6))])]).bind fun d33 =>
 (rdI .i64 (some d33)).bind fun x34 =>
 cond (x34 == (0 : Int))
 ((Z1a [(D.agg [(D.v (.int .i64 Z1m7)),(D.v (.int .i64 Z1he)),(D.v (.int .i64 Z1hf)),(D.v (.int .i64 Z1hg)),(D.v (.bool Z1hh)),(D.v (.int .u8 Z1hi)),(D.list Z1hj Z1hk Z1hl),(D.v (.bool Z1hm)),(D.v (.bool Z1hn)),(D.v (.bool Z1ho)),(D.v (.bool Z1hp)),(D.v (.bool Z1hq)),(D.list Z1hr Z1hs Z1ht),(D.v (.bool Z1hu)),(D.list Z1hv Z1hw Z1hx),(D.v (.int .i64 Z1hy)),(D.v (.int .i64 Z1hz)),(D.v (.int .i64 Z1i0)),(D.list Z1i1 Z1i2 Z1i3),(D.v (.int .i64 Z1i4)),(D.v (.int .i64 Z1i5)),(D.v (.int .i64 Z1i6))])]).bind fun d35 =>
 (rdI .i64 (some d35)).bind fun x36 =>
 cond (x36 == (0 : Int))
 ((Zy [(D.agg [(D.v (.int .i64 Z1m7)),(D.v (.int .i64 Z1he)),(D.v (.int .i64 Z1hf)),(D.v (.int .i64 Z1hg)),(D.v (.bool Z1hh)),(D.v (.int .u8 Z1hi)),(D.list Z1hj Z1hk Z1hl),(D.v (.bool Z1hm)),(D.v (.bool Z1hn)),(D.v (.bool Z1ho)),(D.v (.bool Z1hp)),(D.v (.bool Z1hq)),(D.list Z1hr Z1hs Z1ht),(D.v (.bool Z1hu)),(D.list Z1hv Z1hw Z1hx),(D.v (.int .i64 Z1hy)),(D.v (.int .i64 Z1hz)),(D.v (.int .i64 Z1i0)),(D.list Z1i1 Z1i2 Z1i3),(D.v (.int .i64 Z1i4)),(D.v (.int .i64 Z1i5)),(D.v (.int .i64 Z1i6))])]).bind fun d37 =>
 (rdA (some d37)).bind fun c38 =>
 (rdL c38[0]?).bind fun q39 =>
 cond ((q39.n : Int) == (0 : Int))
 ((Z9e []).bind fun d40 =>
 (rdB (some d40)).bind fun b41 =>
 some (D.v (.bool b41)))
 (some (D.v (.bool false))))
 (some (D.v (.bool false))))
 (some (D.v (.bool false))))
 ((Zfm [(D.v (.int .i64 Z1m9)),(D.agg [(D.list Z1mc Z1md Z1me),(D.v (.bool Z1mf)),(D.v (.bool Z1mg)),(D.v (.bool Z1mh))]),(D.v (.int .i64 Z1ma))]).bind fun d42 =>
 (rdA (some d42)).bind fun c43 =>
 (Zkh [(D.agg [(D.v (.int .i64 Z1m7)),(D.v (.int .i64 Z1he)),(D.v (.int .i64 Z1hf)),(D.v (.int .i64 Z1hg)),(D.v (.bool Z1hh)),(D.v (.int .u8 Z1hi)),(D.list Z1hj Z1hk Z1hl),(D.v (.bool Z1hm)),(D.v (.bool Z1hn)),(D.v (.bool Z1ho)),(D.v (.bool Z1hp)),(D.v (.bool Z1hq)),(D.list Z1hr Z1hs Z1ht),(D.v (.bool Z1hu)),(D.list Z1hv Z1hw Z1hx),(D.v (.int .i64 Z1hy)),(D.v (.int .i64 Z1hz)),(D.v (.int .i64 Z1i0)),(D.list Z1i1 Z1i2 Z1i3),(D.v (.int .i64 Z1i4)),(D.v (.int .i64 Z1i5)),(D.v (.int .i64 Z1i6))]),(D.agg c43)]).bind fun d44 =>
 (rdB (some d44)).bind fun b45 =>
 cond b45
 ((Z9e []).bind fun d46 =>
 (rdB (some d46)).bind fun b47 =>
 some (D.v (.bool b47)))
 (some (D.v (.bool false))))) := (Zms m _).trans (by kernel_rfl)
theorem Zhl (m : Nat) (Z1d5 : Int) (Z1h9 : Int) (Z1ky : Int) (Z1kz : Nat) (Z1l0 : Option Nat) (Z1kj : List D) (Z1l1 : Bool) (Z1l2 : Bool) (Z1l3 : Bool) : Z26 m Z1d5 Z1h9 Z1ky Z1kz Z1l0 Z1kj Z1l1 Z1l2 Z1l3 =
 ((Zbr [(D.v (.int .i64 Z1d5)),(D.agg [(D.list Z1kz Z1l0 Z1kj),(D.v (.bool Z1l1)),(D.v (.bool Z1l2)),(D.v (.bool Z1l3))]),(D.v (.int .i64 Z1h9))]).bind fun d5 =>
 (rdT d5).bind fun r6 =>
 if List.length r6 = 2 then
 (rdA r6[0]?).bind fun c7 =>
 (rdI .i64 r6[1]?).bind fun x8 =>
 if (List.length c7) = 22 then
 (rdI .i64 c7[0]?).bind fun x9 =>
 (rdI .i64 c7[1]?).bind fun x10 =>
 (rdI .i64 c7[2]?).bind fun x11 =>
 (rdI .i64 c7[3]?).bind fun x12 =>
 (rdB c7[4]?).bind fun b13 =>
 (rdI .u8 c7[5]?).bind fun x14 =>
 (rdL c7[6]?).bind fun q15 =>
 (rdB c7[7]?).bind fun b16 =>
 (rdB c7[8]?).bind fun b17 =>
 (rdB c7[9]?).bind fun b18 =>
 (rdB c7[10]?).bind fun b19 =>
 (rdB c7[11]?).bind fun b20 =>
 (rdL c7[12]?).bind fun q21 =>
 (rdB c7[13]?).bind fun b22 =>
 (rdL c7[14]?).bind fun q23 =>
 (rdI .i64 c7[15]?).bind fun x24 =>
 (rdI .i64 c7[16]?).bind fun x25 =>
 (rdI .i64 c7[17]?).bind fun x26 =>
 (rdL c7[18]?).bind fun q27 =>
 (rdI .i64 c7[19]?).bind fun x28 =>
 (rdI .i64 c7[20]?).bind fun x29 =>
 (rdI .i64 c7[21]?).bind fun x30 =>
 cond (x8 != Z1ky)
 (some (D.v (.bool false)))
 ((Zr1 []).bind fun d31 =>
 (rdI .i64 (some d31)).bind fun x32 =>
 cond (x32 != (0 : Int))
 (some (D.v (.bool false)))
 (Zki m Z1d5 Z1h9 Z1ky Z1kz Z1l0 Z1kj Z1l1 Z1l2 Z1l3 x9 x10 x11 x12 b13 x14 q15.n q15.cap q15.cs b16 b17 b18 b19 b20 q21.n q21.cap q21.cs b22 q23.n q23.cap q23.cs x24 x25 x26 q27.n q27.cap q27.cs x28 x29 x30))
 else none
 else none) := (Zms m _).trans (by kernel_rfl)
theorem Zxt (m : Nat) (Zsk : Int) (Z170 : Int) (Zyu : Int) (Z15n : Nat) (Z19f : Option Nat) (Z1gh : List D) (Z1fi : Bool) (Z1fj : Bool) (Z1fk : Bool) : Z2s m Zsk Z170 Zyu Z15n Z19f Z1gh Z1fi Z1fj Z1fk =
 (cond (decide (Zsk < (1 : Int)))
 (Z26 m Zsk Z170 (1 : Int) Z15n Z19f Z1gh Z1fi Z1fj Z1fk)
 (cond (decide (Zsk > (64 : Int)))
 (Z26 m Zsk Z170 (1 : Int) Z15n Z19f Z1gh Z1fi Z1fj Z1fk)
 (Z26 m Zsk Z170 Zyu Z15n Z19f Z1gh Z1fi Z1fj Z1fk))) := (Zms m _).trans (by kernel_rfl)
noncomputable def Z8g (m : Nat) (a0 : Int) (a1 : Int) (a2_0n : Nat) (a2_0c : Option Nat) (a2_0 : List D) (a2_1 : Bool) (a2_2 : Bool) (a2_3 : Bool) : Option D :=
 cond (decide ((a2_0n : Int) > (300 : Int)))
 ((Z9e []).bind fun d1 =>
 (rdB (some d1)).bind fun b2 =>
 some (D.v (.bool b2)))
 ((Zee [(D.list a2_0n a2_0c a2_0)]).bind fun d3 =>
 (rdI .i64 (some d3)).bind fun x4 =>
 cond (x4 == (0 : Int))
 (cond (decide (a1 < (1 : Int)))
 (Z2s m a0 a1 (1 : Int) a2_0n a2_0c a2_0 a2_1 a2_2 a2_3)
 (cond (decide (a1 > (65536 : Int)))
 (Z2s m a0 a1 (1 : Int) a2_0n a2_0c a2_0 a2_1 a2_2 a2_3)
 (Z2s m a0 a1 x4 a2_0n a2_0c a2_0 a2_1 a2_2 a2_3)))
 (Z2s m a0 a1 x4 a2_0n a2_0c a2_0 a2_1 a2_2 a2_3))
theorem Z11v (m : Nat) (a0 : Int) (a1 : Int) (a2_0n : Nat) (a2_0c : Option Nat) (a2_0 : List D) (a2_1 : Bool) (a2_2 : Bool) (a2_3 : Bool) : funD Tg Zf m 8 Zb Tryz.f6 [(D.v (.int .i64 a0)),(D.v (.int .i64 a1)),(D.agg [(D.list a2_0n a2_0c a2_0),(D.v (.bool a2_1)),(D.v (.bool a2_2)),(D.v (.bool a2_3))])] = Z8g m a0 a1 a2_0n a2_0c a2_0 a2_1 a2_2 a2_3 := by kernel_rfl
theorem Z147 : Enters Tg 6 := ⟨Tryz.f6,Tryz.func6,by kernel_rfl,by kernel_rfl⟩
theorem Z148 {ds : List D} {d : D} (h : funD Tg Zf M 8 Zb Tryz.f6 ds = some d) : DataSem Tg 6 ds d := Z0 (H := Zf) (SpOk.cons Z1di (SpOk.cons Z1cx (SpOk.cons Z1db (SpOk.cons Zp3 (SpOk.cons Zqb (SpOk.cons Z1fa (SpOk.cons Zqd (SpOk.cons Z1fh (SpOk.cons Z1dl SpOk.nil))))))))) mixed InlOk.nil Tryz.func6 Z147 h
noncomputable def Zec : List D → Option D
 | [.v (.int .i64 a0),.v (.int .i64 a1),.agg [.list a2_0n a2_0c a2_0,.v (.bool a2_1),.v (.bool a2_2),.v (.bool a2_3)]] => Z8g M a0 a1 a2_0n a2_0c a2_0 a2_1 a2_2 a2_3
 | _ => none
theorem Z149 : ∀ ds d,Zec ds = some d → DataSem Tg 6 ds d := by
 intro ds d h
 unfold Zec at h
 split at h
 ·exact Z148 ((Z11v M _ _ _ _ _ _ _ _).trans h)
 ·cases h
end Go.Ev