/- Functions of the given program in plain form,printed: each with the proof that it is what the evaluator comes to,and that the program function returns what it says. No conditions. -/
import Derived.Test.YthakkigkdhaihaaGreatDoorEzK1
import Derived.Test.YthakkigkdhaihaaGreatDoorEzK2
set_option linter.unusedVariables false
set_option maxRecDepth 100000
namespace Go.Ev
open Go Go.Proofs
def Z28 : FnH := ⟨[(6,⟨(bm 1924145348608 47),[],(some 1),none⟩)],[(3,⟨(bm 2 47),[],(some 1),none⟩),(5,⟨(bm 2 47),[],(some 1),none⟩)]⟩
noncomputable def Z3l : Hints := ⟨[],[],[]⟩
noncomputable def Zsk (m : Nat) (Z3v : List D) : Option D :=
 cutK m (codeK Tg Z3l.sp ⟨0,[],false,[]⟩ (inlK Tg Z3l m 4) m Z28 (subc [1,1] (bodyOf Tryz.f117)) ⟨[Jk,(AV.ptr 0 0),Jk,Jk,Jk,Jk,Jk,Jk,Jk,Jk,Jk,Jk,Jk,Jk,Jk,Jk,Jk,Jk,Jk,Jk,Jk,Jk,Jk,Jk,Jk,Jk,Jk,Jk,Jk,Jk,Jk,Jk,Jk,Jk,Jk,Jk,Jk,Jk,Jk,Jk,Jk,Jk,Jk,Jk,Jk,Jk,Jk],[(Blk.d 17 Z3v)]⟩
  (contK Tg Z3l.sp ⟨0,[],false,[]⟩ (inlK Tg Z3l m 4) m Z28 (endK Tg Tryz.f117 endV) []))
noncomputable def Zgu (m : Nat) (Zfi : List D) : Option D :=
 cutK m (codeK Tg Z3l.sp ⟨0,[],false,[]⟩ (inlK Tg Z3l m 4) m Z28 (subc [1,1,1] (bodyOf Tryz.f117)) ⟨[Jk,(AV.ptr 0 0),Jk,Jk,Jk,Jk,Jk,Jk,Jk,Jk,Jk,Jk,Jk,Jk,Jk,Jk,Jk,Jk,Jk,Jk,Jk,Jk,Jk,Jk,Jk,Jk,Jk,Jk,Jk,Jk,Jk,Jk,Jk,Jk,Jk,Jk,Jk,Jk,Jk,Jk,Jk,Jk,Jk,Jk,Jk,Jk,Jk],[(Blk.d 17 Zfi)]⟩
  (contK Tg Z3l.sp ⟨0,[],false,[]⟩ (inlK Tg Z3l m 4) m Z28 (endK Tg Tryz.f117 endV) []))
noncomputable def Ziu (m n0 : Nat) (Z2h : Nat) (Z3b : Nat) (Z25 : Int) (Z2p : Int) (Z1q : List D) : Option D :=
 Z26 (bm 1924145348608 47) 0 1 (codeK Tg Z3l.sp ⟨0,[],false,[]⟩ (inlK Tg Z3l m 4) m Z28 (subc [1,1,1,0,1,0,0] (bodyOf Tryz.f117))) n0 ⟨[Jk,Jk,Jk,Jk,Jk,Jk,Jk,Jk,Jk,Jk,Jk,Jk,Jk,Jk,Jk,Jk,Jk,Jk,Jk,Jk,Jk,Jk,Jk,Jk,Jk,Jk,Jk,Jk,Jk,Jk,Jk,Jk,Jk,Jk,Jk,Jk,Jk,Jk,(AV.sl 0 Z2h Z3b (some Z3b) 1),(AV.d (D.v (.int .i64 Z25))),(AV.d (D.v (.int .i64 Z2p))),Jk,Jk,Jk,Jk,Jk,Jk],[(Blk.d 17 Z1q)]⟩
  (contK Tg Z3l.sp ⟨0,[],false,[]⟩ (inlK Tg Z3l m 4) m Z28 (endK Tg Tryz.f117 endV) [.block 0,.code (subc [1,1,1,1] (bodyOf Tryz.f117))])
theorem Z10p (m n0 : Nat) (Z2h : Nat) (Z3b : Nat) (Z25 : Int) (Z2p : Int) (Z1q : List D) : Ziu m (n0 + 1) Z2h Z3b Z25 Z2p Z1q =
 (cond (decide (Z2p < Z25))
 (if 0 ≤ Z2p ∧ Z2p < (Z3b : Int) then
 (rdI .u32 Z1q[(Z2h + ((Int.toNat Z2p) * 1))]?).bind fun x10 =>
 cond (x10 != (0 : Int))
 (some (D.v (.int .i64 (1 : Int))))
 (Ziu m n0 Z2h Z3b Z25 (IntKind.wrap .i64 (Z2p + (1 : Int))) Z1q)
 else none)
 (some zI)) := by kernel_rfl
theorem Zy4 (m : Nat) (Zfi : List D) : Zgu m Zfi =
 ((rdI .u8 Zfi[0]?).bind fun x7 =>
 if 0 ≤ x7 ∧ x7 ≤ (16 : Int) then
 Ziu m m (1 + ((Int.toNat x7) * 1)) (16 - (Int.toNat x7)) (((16 - (Int.toNat x7)) : Nat) : Int) (0 : Int) Zfi
 else none) := (Z12 m _).trans (by kernel_rfl)
theorem Zy5 (m : Nat) (Z3v : List D) : Zsk m Z3v =
 ((rdI .u32 Z3v[1]?).bind fun x4 =>
 cond (decide (x4 < (2 : Int)))
 ((rdI .u32 Z3v[2]?).bind fun x5 =>
 cond (decide (x5 > (39 : Int)))
 (some (D.v (.int .i64 (1 : Int))))
 ((rdI .u32 Z3v[2]?).bind fun x6 =>
 cond (decide (x6 > (4294967215 : Int)))
 (some (D.v (.int .i64 (1 : Int))))
 (Zgu m Z3v)))
 ((rdI .u32 Z3v[2]?).bind fun x11 =>
 cond (decide (x11 > (4294967215 : Int)))
 (some (D.v (.int .i64 (1 : Int))))
 (Zgu m Z3v))) := (Z12 m _).trans (by kernel_rfl)
noncomputable def Znb (m : Nat) (a0 : List D) : Option D :=
 if (List.length a0) = 17 then
 (rdI .u8 a0[0]?).bind fun x1 =>
 cond (decide (x1 < (2 : Int)))
 (some (D.v (.int .i64 (1 : Int))))
 ((rdI .u8 a0[0]?).bind fun x2 =>
 cond (decide (x2 > (16 : Int)))
 (some (D.v (.int .i64 (1 : Int))))
 ((rdI .u32 a0[1]?).bind fun x3 =>
 cond (decide (x3 > (2 : Int)))
 (some (D.v (.int .i64 (1 : Int))))
 (Zsk m a0)))
 else none
theorem Z13k (m : Nat) (a0 : List D) : funD Tg Z3l m 4 Z28 Tryz.f117 [(D.agg a0)] = Znb m a0 := by kernel_rfl
theorem Z17r : Enters Tg 117 := ⟨Tryz.f117,Tryz.func117,by kernel_rfl,by kernel_rfl⟩
theorem Z17s {ds : List D} {d : D} (h : funD Tg Z3l M 4 Z28 Tryz.f117 ds = some d) : DataSem Tg 117 ds d := Zo (H := Z3l) SpOk.nil mixed InlOk.nil Tryz.func117 Z17r h
noncomputable def Z4v : List D → Option D
 | [.agg a0] => Znb M a0
 | _ => none
theorem Zq2 : ∀ ds d,Z4v ds = some d → DataSem Tg 117 ds d := by
 intro ds d h
 unfold Z4v at h
 split at h
 ·exact Z17s ((Z13k M _).trans h)
 ·cases h
def Z4o : FnH := ⟨[],[]⟩
def Zc8 : FnH := ⟨[],[]⟩
noncomputable def Ze6 : Hints := ⟨[],[(237,Tryz.f237,Zc8)],[]⟩
noncomputable def Z7e (m : Nat) (a0 : Int) (a1 : Int) : Option D :=
 cond (a0 != a0)
 (cond (a1 != a1)
 (some zI)
 (some (D.v (.int .i64 (-1 : Int)))))
 (cond (a1 != a1)
 (some (D.v (.int .i64 (1 : Int))))
 (cond (decide (a0 < a1))
 (some (D.v (.int .i64 (-1 : Int))))
 (cond (decide (a0 > a1))
 (some (D.v (.int .i64 (1 : Int))))
 (some zI))))
theorem Zq3 (m : Nat) (a0 : Int) (a1 : Int) : funD Tg Ze6 m 4 Z4o Tryz.f208 [(D.v (.int .u32 a0)),(D.v (.int .u32 a1))] = Z7e m a0 a1 := by kernel_rfl
theorem Zsl : Enters Tg 208 := ⟨Tryz.f208,Tryz.func208,by kernel_rfl,by kernel_rfl⟩
theorem Zsm {ds : List D} {d : D} (h : funD Tg Ze6 M 4 Z4o Tryz.f208 ds = some d) : DataSem Tg 208 ds d := Zo (H := Ze6) SpOk.nil mixed (InlOk.cons Tryz.func237 Zuj InlOk.nil) Tryz.func208 Zsl h
noncomputable def Z55 : List D → Option D
 | [.v (.int .u32 a0),.v (.int .u32 a1)] => Z7e M a0 a1
 | _ => none
theorem Zsn : ∀ ds d,Z55 ds = some d → DataSem Tg 208 ds d := by
 intro ds d h
 unfold Z55 at h
 split at h
 ·exact Zsm ((Zq3 M _ _).trans h)
 ·cases h
def Zw : FnH := ⟨[(2,⟨(bm 3587 36),[],(some 0),none⟩)],[]⟩
noncomputable def Z1w : Hints := ⟨[(208,Z55)],[],[]⟩
noncomputable def Z3i (m n0 : Nat) (Z2h : Nat) (Z3b : Option Nat) (Z25 : List D) (Z2p : Nat) (Z1q : Option Nat) (Z48 : List D) (Z49 : Int) (Z4p : Int) : Option D :=
 Z26 (bm 3587 36) 0 0 (codeK Tg Z1w.sp ⟨0,[],false,[]⟩ (inlK Tg Z1w m 4) m Zw (subc [1,0,1,0,0] (bodyOf Tryz.f177))) n0 ⟨[(AV.d (D.list Z2h Z3b Z25)),(AV.d (D.list Z2p Z1q Z48)),Jk,Jk,Jk,Jk,Jk,Jk,Jk,(AV.d (D.list Z2h Z3b Z25)),(AV.d (D.v (.int .i64 Z49))),(AV.d (D.v (.int .i64 Z4p))),Jk,Jk,Jk,Jk,Jk,Jk,Jk,Jk,Jk,Jk,Jk,Jk,Jk,Jk,Jk,Jk,Jk,Jk,Jk,Jk,Jk,Jk,Jk,Jk],[]⟩
  (contK Tg Z1w.sp ⟨0,[],false,[]⟩ (inlK Tg Z1w m 4) m Zw (endK Tg Tryz.f177 endV) [.block 0,.code (subc [1,1] (bodyOf Tryz.f177))])
theorem Zg3 (m n0 : Nat) (Z2h : Nat) (Z3b : Option Nat) (Z25 : List D) (Z2p : Nat) (Z1q : Option Nat) (Z48 : List D) (Z49 : Int) (Z4p : Int) : Z3i m (n0 + 1) Z2h Z3b Z25 Z2p Z1q Z48 Z49 Z4p =
 (cond (decide (Z4p < Z49))
 (if 0 ≤ Z4p ∧ Z4p < (Z2h : Int) then
 (rdI .u32 Z25[((Int.toNat Z4p) * 1)]?).bind fun x9 =>
 cond (decide (Z4p ≥ (Z2p : Int)))
 (some (D.v (.int .i64 (1 : Int))))
 (if 0 ≤ Z4p ∧ Z4p < (Z2p : Int) then
 (rdI .u32 Z48[((Int.toNat Z4p) * 1)]?).bind fun x10 =>
 (Z55 [(D.v (.int .u32 x9)),(D.v (.int .u32 x10))]).bind fun d11 =>
 (rdI .i64 (some d11)).bind fun x12 =>
 cond (x12 != (0 : Int))
 (some (D.v (.int .i64 x12)))
 (Z3i m n0 Z2h Z3b Z25 Z2p Z1q Z48 Z49 (IntKind.wrap .i64 (Z4p + (1 : Int))))
 else none)
 else none)
 (cond (decide ((Z2h : Int) < (Z2p : Int)))
 (some (D.v (.int .i64 (-1 : Int))))
 (some zI))) := by kernel_rfl
noncomputable def Z8h (m : Nat) (a0n : Nat) (a0c : Option Nat) (a0 : List D) (a1n : Nat) (a1c : Option Nat) (a1 : List D) : Option D :=
 Z3i m m a0n a0c a0 a1n a1c a1 (a0n : Int) (0 : Int)
theorem Zgv (m : Nat) (a0n : Nat) (a0c : Option Nat) (a0 : List D) (a1n : Nat) (a1c : Option Nat) (a1 : List D) : funD Tg Z1w m 4 Zw Tryz.f177 [(D.list a0n a0c a0),(D.list a1n a1c a1)] = Z8h m a0n a0c a0 a1n a1c a1 := by kernel_rfl
theorem Zig : Enters Tg 177 := ⟨Tryz.f177,Tryz.func177,by kernel_rfl,by kernel_rfl⟩
theorem Zih {ds : List D} {d : D} (h : funD Tg Z1w M 4 Zw Tryz.f177 ds = some d) : DataSem Tg 177 ds d := Zo (H := Z1w) (SpOk.cons Zsn SpOk.nil) mixed InlOk.nil Tryz.func177 Zig h
noncomputable def Z2u : List D → Option D
 | [.list a0n a0c a0,.list a1n a1c a1] => Z8h M a0n a0c a0 a1n a1c a1
 | _ => none
theorem Zii : ∀ ds d,Z2u ds = some d → DataSem Tg 177 ds d := by
 intro ds d h
 unfold Z2u at h
 split at h
 ·exact Zih ((Zgv M _ _ _ _ _ _).trans h)
 ·cases h
def Z9c : FnH := ⟨[],[]⟩
def Zmc : FnH := ⟨[],[]⟩
noncomputable def Znz : Hints := ⟨[(177,Z2u)],[(178,Tryz.f178,Zmc)],[]⟩
noncomputable def Ziv (m : Nat) (a0 : List D) (a1 : List D) : Option D :=
 if (List.length a0) = 17 then
 if (List.length a1) = 17 then
 (rdI .u8 a0[0]?).bind fun x1 =>
 if 0 ≤ (mm true (IntKind.wrap .i64 x1) (16 : Int)) ∧ (mm true (IntKind.wrap .i64 x1) (16 : Int)) ≤ (16 : Int) then
 (rdI .u8 a1[0]?).bind fun x2 =>
 if 0 ≤ (mm true (IntKind.wrap .i64 x2) (16 : Int)) ∧ (mm true (IntKind.wrap .i64 x2) (16 : Int)) ≤ (16 : Int) then
 if (1 + (((Int.toNat (mm true (IntKind.wrap .i64 x1) (16 : Int))) - 0) * 1)) ≤ 17 then
 if (1 + (((Int.toNat (mm true (IntKind.wrap .i64 x2) (16 : Int))) - 0) * 1)) ≤ 17 then
 (Z2u [(D.list ((Int.toNat (mm true (IntKind.wrap .i64 x1) (16 : Int))) - 0) (some 16) (cutL 17 a0 1 (((Int.toNat (mm true (IntKind.wrap .i64 x1) (16 : Int))) - 0) * 1))),(D.list ((Int.toNat (mm true (IntKind.wrap .i64 x2) (16 : Int))) - 0) (some 16) (cutL 17 a1 1 (((Int.toNat (mm true (IntKind.wrap .i64 x2) (16 : Int))) - 0) * 1)))]).bind fun d3 =>
 (rdI .i64 (some d3)).bind fun x4 =>
 some (D.v (.int .i64 x4))
 else none
 else none
 else none
 else none
 else none
 else none
theorem Zy6 (m : Nat) (a0 : List D) (a1 : List D) : funD Tg Znz m 4 Z9c Tryz.f144 [(D.agg a0),(D.agg a1)] = Ziv m a0 a1 := by kernel_rfl
theorem Z13l : Enters Tg 144 := ⟨Tryz.f144,Tryz.func144,by kernel_rfl,by kernel_rfl⟩
theorem Z13m {ds : List D} {d : D} (h : funD Tg Znz M 4 Z9c Tryz.f144 ds = some d) : DataSem Tg 144 ds d := Zo (H := Znz) (SpOk.cons Zii SpOk.nil) mixed (InlOk.cons Tryz.func178 Z19r InlOk.nil) Tryz.func144 Z13l h
noncomputable def Zc9 : List D → Option D
 | [.agg a0,.agg a1] => Ziv M a0 a1
 | _ => none
theorem Z13n : ∀ ds d,Zc9 ds = some d → DataSem Tg 144 ds d := by
 intro ds d h
 unfold Zc9 at h
 split at h
 ·exact Z13m ((Zy6 M _ _).trans h)
 ·cases h
def Z3s : FnH := ⟨[(4,⟨(bm 7169 38),[],(some 0),none⟩)],[]⟩
noncomputable def Z5z : Hints := ⟨[(117,Z4v),(144,Zc9)],[],[]⟩
noncomputable def Z7o (m n0 : Nat) (Z2h : Nat) (Z3b : Option Nat) (Z25 : List D) (Z2p : Int) (Z1q : Int) : Option D :=
 Z26 (bm 7169 38) 0 0 (codeK Tg Z5z.sp ⟨0,[],false,[]⟩ (inlK Tg Z5z m 4) m Z3s (subc [1,1,0,1,0,0] (bodyOf Tryz.f153))) n0 ⟨[(AV.d (D.list Z2h Z3b Z25)),Jk,Jk,Jk,Jk,Jk,Jk,Jk,Jk,Jk,(AV.d (D.list Z2h Z3b Z25)),(AV.d (D.v (.int .i64 Z2p))),(AV.d (D.v (.int .i64 Z1q))),Jk,Jk,Jk,Jk,Jk,Jk,Jk,Jk,Jk,Jk,Jk,Jk,Jk,Jk,Jk,Jk,Jk,Jk,Jk,Jk,Jk,Jk,Jk,Jk,Jk],[]⟩
  (contK Tg Z5z.sp ⟨0,[],false,[]⟩ (inlK Tg Z5z m 4) m Z3s (endK Tg Tryz.f153 endV) [.block 0,.code (subc [1,1,1] (bodyOf Tryz.f153))])
theorem Zuq (m n0 : Nat) (Z2h : Nat) (Z3b : Option Nat) (Z25 : List D) (Z2p : Int) (Z1q : Int) : Z7o m (n0 + 1) Z2h Z3b Z25 Z2p Z1q =
 (cond (decide (Z1q < Z2p))
 (if 0 ≤ Z1q ∧ Z1q < (Z2h : Int) then
 if (((Int.toNat Z1q) * 17) + 17) ≤ (List.length Z25) then
 if (List.length ((List.drop ((Int.toNat Z1q) * 17) Z25).take 17)) = 17 then
 (Z4v [(D.agg ((List.drop ((Int.toNat Z1q) * 17) Z25).take 17))]).bind fun d7 =>
 (rdI .i64 (some d7)).bind fun x8 =>
 cond (x8 != (0 : Int))
 (some (D.v (.int .i64 x8)))
 (cond (Z1q == (0 : Int))
 (Z7o m n0 Z2h Z3b Z25 Z2p (IntKind.wrap .i64 (Z1q + (1 : Int))))
 (if 0 ≤ (IntKind.wrap .i64 (Z1q - (1 : Int))) ∧ (IntKind.wrap .i64 (Z1q - (1 : Int))) < (Z2h : Int) then
 if (((Int.toNat (IntKind.wrap .i64 (Z1q - (1 : Int)))) * 17) + 17) ≤ (List.length Z25) then
 (Zc9 [(D.agg ((List.drop ((Int.toNat (IntKind.wrap .i64 (Z1q - (1 : Int)))) * 17) Z25).take 17)),(D.agg ((List.drop ((Int.toNat Z1q) * 17) Z25).take 17))]).bind fun d9 =>
 (rdI .i64 (some d9)).bind fun x10 =>
 cond (x10 == (0 : Int))
 (some (D.v (.int .i64 (14 : Int))))
 (cond (decide (x10 > (0 : Int)))
 (some (D.v (.int .i64 (13 : Int))))
 (Z7o m n0 Z2h Z3b Z25 Z2p (IntKind.wrap .i64 (Z1q + (1 : Int)))))
 else none
 else none))
 else none
 else none
 else none)
 (some zI)) := by kernel_rfl
noncomputable def Zgw (m : Nat) (a0n : Nat) (a0c : Option Nat) (a0 : List D) : Option D :=
 cond (decide ((a0n : Int) > (256 : Int)))
 (some (D.v (.int .i64 (3 : Int))))
 (Z7o m m a0n a0c a0 (a0n : Int) (0 : Int))
theorem Zwm (m : Nat) (a0n : Nat) (a0c : Option Nat) (a0 : List D) : funD Tg Z5z m 4 Z3s Tryz.f153 [(D.list a0n a0c a0)] = Zgw m a0n a0c a0 := by kernel_rfl
theorem Z10q : Enters Tg 153 := ⟨Tryz.f153,Tryz.func153,by kernel_rfl,by kernel_rfl⟩
theorem Z10r {ds : List D} {d : D} (h : funD Tg Z5z M 4 Z3s Tryz.f153 ds = some d) : DataSem Tg 153 ds d := Zo (H := Z5z) (SpOk.cons Zq2 (SpOk.cons Z13n SpOk.nil)) mixed InlOk.nil Tryz.func153 Z10q h
noncomputable def Z9d : List D → Option D
 | [.list a0n a0c a0] => Zgw M a0n a0c a0
 | _ => none
theorem Z10s : ∀ ds d,Z9d ds = some d → DataSem Tg 153 ds d := by
 intro ds d h
 unfold Z9d at h
 split at h
 ·exact Z10r ((Zwm M _ _ _).trans h)
 ·cases h
def Z6e : FnH := ⟨[],[]⟩
noncomputable def Zk8 : Hints := ⟨[(153,Z9d)],[],[]⟩
noncomputable def Zep (m : Nat) (a0_0n : Nat) (a0_0c : Option Nat) (a0_0 : List D) (a0_1 : Bool) (a0_2 : Bool) (a0_3 : Bool) : Option D :=
 (Z9d [(D.list a0_0n a0_0c a0_0)]).bind fun d1 =>
 (rdI .i64 (some d1)).bind fun x2 =>
 some (D.v (.int .i64 x2))
theorem Zur (m : Nat) (a0_0n : Nat) (a0_0c : Option Nat) (a0_0 : List D) (a0_1 : Bool) (a0_2 : Bool) (a0_3 : Bool) : funD Tg Zk8 m 4 Z6e Tryz.f103 [(D.agg [(D.list a0_0n a0_0c a0_0),(D.v (.bool a0_1)),(D.v (.bool a0_2)),(D.v (.bool a0_3))])] = Zep m a0_0n a0_0c a0_0 a0_1 a0_2 a0_3 := by kernel_rfl
theorem Zy7 : Enters Tg 103 := ⟨Tryz.f103,Tryz.func103,by kernel_rfl,by kernel_rfl⟩
theorem Zy8 {ds : List D} {d : D} (h : funD Tg Zk8 M 4 Z6e Tryz.f103 ds = some d) : DataSem Tg 103 ds d := Zo (H := Zk8) (SpOk.cons Z10s SpOk.nil) mixed InlOk.nil Tryz.func103 Zy7 h
noncomputable def Z4s : List D → Option D
 | [.agg [.list a0_0n a0_0c a0_0,.v (.bool a0_1),.v (.bool a0_2),.v (.bool a0_3)]] => Zep M a0_0n a0_0c a0_0 a0_1 a0_2 a0_3
 | _ => none
theorem Zop : ∀ ds d,Z4s ds = some d → DataSem Tg 103 ds d := by
 intro ds d h
 unfold Z4s at h
 split at h
 ·exact Zy8 ((Zur M _ _ _ _ _ _).trans h)
 ·cases h
def Z1j : FnH := ⟨[(3,⟨(bm 236 50),[],(some 2),none⟩)],[(5,⟨(bm 236 50),[],(some 2),none⟩),(9,⟨(bm 96 50),[],(some 0),none⟩)]⟩
noncomputable def Z2d : Hints := ⟨[],[],[]⟩
noncomputable def Zda (m n0 : Nat) (Z2h : Int) (Z3b : Int) (Z25 : Int) (Z2p : List D) (Z1q : List D) : Option D :=
 Z26 (bm 236 50) 0 2 (codeK Tg Z2d.sp ⟨0,[],false,[]⟩ (inlK Tg Z2d m 4) m Z1j (subc [1,1,0,1,0,0] (bodyOf Tryz.f78))) n0 ⟨[Jk,Jk,(AV.ptr 0 0),(AV.ptr 1 0),Jk,(AV.d (D.v (.int .i64 Z2h))),(AV.d (D.v (.int .i64 Z3b))),(AV.d (D.v (.int .i64 Z25))),Jk,Jk,Jk,Jk,Jk,Jk,Jk,Jk,Jk,Jk,Jk,Jk,Jk,Jk,Jk,Jk,Jk,Jk,Jk,Jk,Jk,Jk,Jk,Jk,Jk,Jk,Jk,Jk,Jk,Jk,Jk,Jk,Jk,Jk,Jk,Jk,Jk,Jk,Jk,Jk,Jk,Jk],[(Blk.d 17 Z2p),(Blk.d 17 Z1q)]⟩
  (contK Tg Z2d.sp ⟨0,[],false,[]⟩ (inlK Tg Z2d m 4) m Z1j (endK Tg Tryz.f78 endV) [.block 0,.code (subc [1,1,1] (bodyOf Tryz.f78))])
noncomputable def Znc (m n0 : Nat) (Z3v : Int) (Z4x : Int) (Z44 : Int) (Z5s : List D) (Z5q : List D) : Option D :=
 cutK m (codeK Tg Z2d.sp ⟨0,[],false,[]⟩ (inlK Tg Z2d m 4) m Z1j (subc [1,1,0,1,0,0,1] (bodyOf Tryz.f78)) ⟨[Jk,Jk,(AV.ptr 0 0),(AV.ptr 1 0),Jk,(AV.d (D.v (.int .i64 Z3v))),(AV.d (D.v (.int .i64 Z4x))),(AV.d (D.v (.int .i64 Z44))),Jk,Jk,Jk,Jk,Jk,Jk,Jk,Jk,Jk,Jk,Jk,Jk,Jk,Jk,Jk,Jk,Jk,Jk,Jk,Jk,Jk,Jk,Jk,Jk,Jk,Jk,Jk,Jk,Jk,Jk,Jk,Jk,Jk,Jk,Jk,Jk,Jk,Jk,Jk,Jk,Jk,Jk],[(Blk.d 17 Z5s),(Blk.d 17 Z5q)]⟩
  (contK Tg Z2d.sp ⟨0,[],false,[]⟩ (inlK Tg Z2d m 4) m Z1j (endK Tg Tryz.f78 endV) [.loop (bm 236 50) 2 (subc [1,1,0,1,0,0] (bodyOf Tryz.f78)) n0,.block 0,.code (subc [1,1,1] (bodyOf Tryz.f78))]))
theorem Zto (m n0 : Nat) (Z3v : Int) (Z4x : Int) (Z44 : Int) (Z5s : List D) (Z5q : List D) : Znc m n0 Z3v Z4x Z44 Z5s Z5q =
 (if 0 ≤ Z44 ∧ Z44 < (16 : Int) then
 (rdI .u32 Z5s[(1 + ((Int.toNat Z44) * 1))]?).bind fun x11 =>
 if 0 ≤ Z44 ∧ Z44 < (16 : Int) then
 (rdI .u32 Z5q[(1 + ((Int.toNat Z44) * 1))]?).bind fun x12 =>
 cond (decide (x11 < x12))
 (some (D.v (.int .i64 (-1 : Int))))
 (if 0 ≤ Z44 ∧ Z44 < (16 : Int) then
 (rdI .u32 Z5s[(1 + ((Int.toNat Z44) * 1))]?).bind fun x13 =>
 if 0 ≤ Z44 ∧ Z44 < (16 : Int) then
 (rdI .u32 Z5q[(1 + ((Int.toNat Z44) * 1))]?).bind fun x14 =>
 cond (decide (x13 > x14))
 (some (D.v (.int .i64 (1 : Int))))
 (Zda m n0 Z3v Z4x (IntKind.wrap .i64 (Z44 + (1 : Int))) Z5s Z5q)
 else none
 else none)
 else none
 else none) := (Z12 m _).trans (by kernel_rfl)
noncomputable def Zgx (m : Nat) (Zfi : Int) (Zjz : Int) : Option D :=
 cutK m (codeK Tg Z2d.sp ⟨0,[],false,[]⟩ (inlK Tg Z2d m 4) m Z1j (subc [1,1,1] (bodyOf Tryz.f78)) ⟨[Jk,Jk,Jk,Jk,Jk,(AV.d (D.v (.int .i64 Zfi))),(AV.d (D.v (.int .i64 Zjz))),Jk,Jk,Jk,Jk,Jk,Jk,Jk,Jk,Jk,Jk,Jk,Jk,Jk,Jk,Jk,Jk,Jk,Jk,Jk,Jk,Jk,Jk,Jk,Jk,Jk,Jk,Jk,Jk,Jk,Jk,Jk,Jk,Jk,Jk,Jk,Jk,Jk,Jk,Jk,Jk,Jk,Jk,Jk],[]⟩
  (contK Tg Z2d.sp ⟨0,[],false,[]⟩ (inlK Tg Z2d m 4) m Z1j (endK Tg Tryz.f78 endV) []))
theorem Ztp (m : Nat) (Zfi : Int) (Zjz : Int) : Zgx m Zfi Zjz =
 (cond (decide (Zfi < Zjz))
 (some (D.v (.int .i64 (-1 : Int))))
 (cond (decide (Zfi > Zjz))
 (some (D.v (.int .i64 (1 : Int))))
 (some zI))) := (Z12 m _).trans (by kernel_rfl)
theorem Zus (m n0 : Nat) (Z2h : Int) (Z3b : Int) (Z25 : Int) (Z2p : List D) (Z1q : List D) : Zda m (n0 + 1) Z2h Z3b Z25 Z2p Z1q =
 (cond (decide (Z25 < Z2h))
 (cond (decide (Z25 < Z3b))
 (Znc m n0 Z2h Z3b Z25 Z2p Z1q)
 (Zgx m Z2h Z3b))
 (Zgx m Z2h Z3b)) := by kernel_rfl
noncomputable def Zgy (m : Nat) (a0 : List D) (a1 : List D) : Option D :=
 if (List.length a0) = 17 then
 if (List.length a1) = 17 then
 (rdI .u8 a0[0]?).bind fun x1 =>
 (rdI .u8 a1[0]?).bind fun x2 =>
 Zda m m (mm true (IntKind.wrap .i64 x1) (16 : Int)) (mm true (IntKind.wrap .i64 x2) (16 : Int)) (0 : Int) a0 a1
 else none
 else none
theorem Zwn (m : Nat) (a0 : List D) (a1 : List D) : funD Tg Z2d m 4 Z1j Tryz.f78 [(D.agg a0),(D.agg a1)] = Zgy m a0 a1 := by kernel_rfl
theorem Z10t : Enters Tg 78 := ⟨Tryz.f78,Tryz.func78,by kernel_rfl,by kernel_rfl⟩
theorem Z10u {ds : List D} {d : D} (h : funD Tg Z2d M 4 Z1j Tryz.f78 ds = some d) : DataSem Tg 78 ds d := Zo (H := Z2d) SpOk.nil mixed InlOk.nil Tryz.func78 Z10t h
noncomputable def Z9e : List D → Option D
 | [.agg a0,.agg a1] => Zgy M a0 a1
 | _ => none
theorem Z10v : ∀ ds d,Z9e ds = some d → DataSem Tg 78 ds d := by
 intro ds d h
 unfold Z9e at h
 split at h
 ·exact Z10u ((Zwn M _ _).trans h)
 ·cases h
end Go.Ev