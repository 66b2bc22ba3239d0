/- The examples of the chapter on the state machine of the tree,evaluated: each call at the arguments that come up. No conditions. -/
import Derived.Test.YthakkigkdhaihaaGreatDoorEzJa2
set_option linter.unusedVariables false
set_option maxRecDepth 1000000
set_option maxHeartbeats 4000000
namespace Go.Ev
open Go Go.Proofs
def Z3 : FnH := ⟨[(6,⟨(bm 117440660 97),[(7,1),(24,1)],none,none⟩),(15,⟨(bm 3940649673952400 97),[(7,1),(10,1),(11,20),(49,20)],none,none⟩)],[]⟩
theorem Z7t : Enters Tg 92 := ⟨Tryz.f92,Tryz.func92,by kernel_rfl,by kernel_rfl⟩
noncomputable def Z1c : Hints := ⟨[(149,Znu),(150,Zrv),(151,Z6h)],[(92,Tryz.f92,Z3)],[303,305,306,308,253,1000032,1000060,2000026,2000040,2000062,2000034]⟩
theorem Zx {m n : Nat} {ds : List D} {d : D} (h : funD Tg Z1c m n Z3 Tryz.f92 ds = some d) : DataSem Tg 92 ds d := Z0 (H := Z1c) (SpOk.cons td_trees_Check (SpOk.cons td_trees_copied (SpOk.cons td_trees_clone_trees_Node SpOk.nil))) mixed (InlOk.cons Tryz.func92 Z7t InlOk.nil) Tryz.func92 Z7t h
def Zwk : List D := [(D.agg [(D.list 3 none [(D.v (.int .i64 (-1 : Int))),(D.v (.int .u8 (5 : Int))),w2,w5,w29,w32,z0,z0,z0,z0,z0,z0,z0,z0,z0,z0,z0,z0,(D.list 1 (some 1) [(D.v (.int .u8 (5 : Int))),w2,w5,w29,w32,z0,z0,z0,z0,z0,z0,z0,z0,z0,z0,z0,z0]),n0l,zI,(D.v (.int .u8 (3 : Int))),w1,w2,w3,z0,z0,z0,z0,z0,z0,z0,z0,z0,z0,z0,z0,z0,(D.list 1 (some 1) [(D.v (.int .u8 (3 : Int))),w1,w2,w3,z0,z0,z0,z0,z0,z0,z0,z0,z0,z0,z0,z0,z0]),n0l,zI,(D.v (.int .u8 (5 : Int))),w2,w5,w29,w32,z0,z0,z0,z0,z0,z0,z0,z0,z0,z0,z0,z0,(D.list 1 (some 1) [(D.v (.int .u8 (5 : Int))),w2,w5,w29,w32,z0,z0,z0,z0,z0,z0,z0,z0,z0,z0,z0,z0]),n0l])]),(D.list 0 none [])]
def Zwl : D := (D.tup [(D.agg [(D.list 3 (some 3) [(D.v (.int .i64 (-1 : Int))),(D.v (.int .u8 (5 : Int))),w2,w5,w29,w32,z0,z0,z0,z0,z0,z0,z0,z0,z0,z0,z0,z0,(D.list 1 (some 1) [(D.v (.int .u8 (5 : Int))),w2,w5,w29,w32,z0,z0,z0,z0,z0,z0,z0,z0,z0,z0,z0,z0]),n0l,zI,(D.v (.int .u8 (3 : Int))),w1,w2,w3,z0,z0,z0,z0,z0,z0,z0,z0,z0,z0,z0,z0,z0,(D.list 1 (some 1) [(D.v (.int .u8 (3 : Int))),w1,w2,w3,z0,z0,z0,z0,z0,z0,z0,z0,z0,z0,z0,z0,z0]),n0l,zI,(D.v (.int .u8 (5 : Int))),w2,w5,w29,w32,z0,z0,z0,z0,z0,z0,z0,z0,z0,z0,z0,z0,(D.list 1 (some 1) [(D.v (.int .u8 (5 : Int))),w2,w5,w29,w32,z0,z0,z0,z0,z0,z0,z0,z0,z0,z0,z0,z0]),n0l])]),zI])
def Zwm : List D := [(D.agg [(D.list 4 none [(D.v (.int .i64 (-1 : Int))),(D.v (.int .u8 (5 : Int))),w2,w5,w29,w32,z0,z0,z0,z0,z0,z0,z0,z0,z0,z0,z0,z0,(D.list 1 (some 1) [(D.v (.int .u8 (5 : Int))),w2,w5,w29,w32,z0,z0,z0,z0,z0,z0,z0,z0,z0,z0,z0,z0]),n0l,zI,(D.v (.int .u8 (3 : Int))),w1,w2,w3,z0,z0,z0,z0,z0,z0,z0,z0,z0,z0,z0,z0,z0,(D.list 1 (some 1) [(D.v (.int .u8 (3 : Int))),w1,w2,w4,z0,z0,z0,z0,z0,z0,z0,z0,z0,z0,z0,z0,z0]),n0l,zI,(D.v (.int .u8 (5 : Int))),w2,w5,w29,w32,z0,z0,z0,z0,z0,z0,z0,z0,z0,z0,z0,z0,(D.list 1 (some 1) [(D.v (.int .u8 (5 : Int))),w2,w5,w29,w32,z0,z0,z0,z0,z0,z0,z0,z0,z0,z0,z0,z0]),n0l,(D.v (.int .i64 (1 : Int))),(D.v (.int .u8 (3 : Int))),w1,w2,w4,z0,z0,z0,z0,z0,z0,z0,z0,z0,z0,z0,z0,z0,(D.list 1 (some 1) [(D.v (.int .u8 (3 : Int))),w1,w2,w4,z0,z0,z0,z0,z0,z0,z0,z0,z0,z0,z0,z0,z0]),n0l])]),(D.list 1 none [(D.v (.int .i64 (2 : Int)))])]
def Zwn : D := (D.tup [(D.agg [(D.list 3 (some 3) [(D.v (.int .i64 (-1 : Int))),(D.v (.int .u8 (5 : Int))),w2,w5,w29,w32,z0,z0,z0,z0,z0,z0,z0,z0,z0,z0,z0,z0,(D.list 1 (some 1) [(D.v (.int .u8 (5 : Int))),w2,w5,w29,w32,z0,z0,z0,z0,z0,z0,z0,z0,z0,z0,z0,z0]),n0l,zI,(D.v (.int .u8 (3 : Int))),w1,w2,w3,z0,z0,z0,z0,z0,z0,z0,z0,z0,z0,z0,z0,z0,(D.list 1 (some 1) [(D.v (.int .u8 (3 : Int))),w1,w2,w4,z0,z0,z0,z0,z0,z0,z0,z0,z0,z0,z0,z0,z0]),n0l,(D.v (.int .i64 (1 : Int))),(D.v (.int .u8 (3 : Int))),w1,w2,w4,z0,z0,z0,z0,z0,z0,z0,z0,z0,z0,z0,z0,z0,(D.list 1 (some 1) [(D.v (.int .u8 (3 : Int))),w1,w2,w4,z0,z0,z0,z0,z0,z0,z0,z0,z0,z0,z0,z0,z0]),n0l])]),zI])
def Zwo : List D := [(D.agg [(D.list 1 (some 1) [(D.v (.int .i64 (-1 : Int))),(D.v (.int .u8 (5 : Int))),w2,w5,w29,w32,z0,z0,z0,z0,z0,z0,z0,z0,z0,z0,z0,z0,(D.list 1 (some 1) [(D.v (.int .u8 (5 : Int))),w2,w5,w29,w32,z0,z0,z0,z0,z0,z0,z0,z0,z0,z0,z0,z0]),n0l])]),n0l]
def Zwp : D := (D.tup [(D.agg [(D.list 1 (some 1) [(D.v (.int .i64 (-1 : Int))),(D.v (.int .u8 (5 : Int))),w2,w5,w29,w32,z0,z0,z0,z0,z0,z0,z0,z0,z0,z0,z0,z0,(D.list 1 (some 1) [(D.v (.int .u8 (5 : Int))),w2,w5,w29,w32,z0,z0,z0,z0,z0,z0,z0,z0,z0,z0,z0,z0]),n0l])]),zI])
def Zwq : List D := [(D.agg [(D.list 3 (some 3) [(D.v (.int .i64 (-1 : Int))),(D.v (.int .u8 (5 : Int))),w2,w5,w29,w32,z0,z0,z0,z0,z0,z0,z0,z0,z0,z0,z0,z0,(D.list 1 (some 1) [(D.v (.int .u8 (5 : Int))),w2,w5,w29,w32,z0,z0,z0,z0,z0,z0,z0,z0,z0,z0,z0,z0]),n0l,zI,(D.v (.int .u8 (3 : Int))),w1,w2,w3,z0,z0,z0,z0,z0,z0,z0,z0,z0,z0,z0,z0,z0,(D.list 1 (some 1) [(D.v (.int .u8 (3 : Int))),w1,w2,w3,z0,z0,z0,z0,z0,z0,z0,z0,z0,z0,z0,z0,z0]),n0l,zI,(D.v (.int .u8 (5 : Int))),w2,w5,w29,w32,z0,z0,z0,z0,z0,z0,z0,z0,z0,z0,z0,z0,(D.list 1 (some 1) [(D.v (.int .u8 (5 : Int))),w2,w5,w29,w32,z0,z0,z0,z0,z0,z0,z0,z0,z0,z0,z0,z0]),n0l])]),n0l]
def Zwr : D := (D.tup [(D.agg [(D.list 3 (some 3) [(D.v (.int .i64 (-1 : Int))),(D.v (.int .u8 (5 : Int))),w2,w5,w29,w32,z0,z0,z0,z0,z0,z0,z0,z0,z0,z0,z0,z0,(D.list 1 (some 1) [(D.v (.int .u8 (5 : Int))),w2,w5,w29,w32,z0,z0,z0,z0,z0,z0,z0,z0,z0,z0,z0,z0]),n0l,zI,(D.v (.int .u8 (3 : Int))),w1,w2,w3,z0,z0,z0,z0,z0,z0,z0,z0,z0,z0,z0,z0,z0,(D.list 1 (some 1) [(D.v (.int .u8 (3 : Int))),w1,w2,w3,z0,z0,z0,z0,z0,z0,z0,z0,z0,z0,z0,z0,z0]),n0l,zI,(D.v (.int .u8 (5 : Int))),w2,w5,w29,w32,z0,z0,z0,z0,z0,z0,z0,z0,z0,z0,z0,z0,(D.list 1 (some 1) [(D.v (.int .u8 (5 : Int))),w2,w5,w29,w32,z0,z0,z0,z0,z0,z0,z0,z0,z0,z0,z0,z0]),n0l])]),zI])
def Zws : List D := [(D.agg [(D.list 3 none [(D.v (.int .i64 (-1 : Int))),(D.v (.int .u8 (5 : Int))),w2,w5,w29,w32,z0,z0,z0,z0,z0,z0,z0,z0,z0,z0,z0,z0,(D.list 1 (some 1) [(D.v (.int .u8 (5 : Int))),w2,w5,w29,w32,z0,z0,z0,z0,z0,z0,z0,z0,z0,z0,z0,z0]),n0l,zI,(D.v (.int .u8 (3 : Int))),w1,w2,w3,z0,z0,z0,z0,z0,z0,z0,z0,z0,z0,z0,z0,z0,(D.list 1 (some 1) [(D.v (.int .u8 (3 : Int))),w1,w2,w4,z0,z0,z0,z0,z0,z0,z0,z0,z0,z0,z0,z0,z0]),n0l,zI,(D.v (.int .u8 (5 : Int))),w2,w5,w29,w32,z0,z0,z0,z0,z0,z0,z0,z0,z0,z0,z0,z0,(D.list 1 (some 1) [(D.v (.int .u8 (5 : Int))),w2,w5,w29,w32,z0,z0,z0,z0,z0,z0,z0,z0,z0,z0,z0,z0]),n0l])]),n0l]
def Zwt : D := (D.tup [(D.agg [(D.list 3 (some 3) [(D.v (.int .i64 (-1 : Int))),(D.v (.int .u8 (5 : Int))),w2,w5,w29,w32,z0,z0,z0,z0,z0,z0,z0,z0,z0,z0,z0,z0,(D.list 1 (some 1) [(D.v (.int .u8 (5 : Int))),w2,w5,w29,w32,z0,z0,z0,z0,z0,z0,z0,z0,z0,z0,z0,z0]),n0l,zI,(D.v (.int .u8 (3 : Int))),w1,w2,w3,z0,z0,z0,z0,z0,z0,z0,z0,z0,z0,z0,z0,z0,(D.list 1 (some 1) [(D.v (.int .u8 (3 : Int))),w1,w2,w4,z0,z0,z0,z0,z0,z0,z0,z0,z0,z0,z0,z0,z0]),n0l,zI,(D.v (.int .u8 (5 : Int))),w2,w5,w29,w32,z0,z0,z0,z0,z0,z0,z0,z0,z0,z0,z0,z0,(D.list 1 (some 1) [(D.v (.int .u8 (5 : Int))),w2,w5,w29,w32,z0,z0,z0,z0,z0,z0,z0,z0,z0,z0,z0,z0]),n0l])]),zI])
def Zwu : List D := [(D.agg [(D.list 3 (some 3) [(D.v (.int .i64 (-1 : Int))),(D.v (.int .u8 (5 : Int))),w2,w5,w29,w32,z0,z0,z0,z0,z0,z0,z0,z0,z0,z0,z0,z0,(D.list 1 (some 1) [(D.v (.int .u8 (5 : Int))),w2,w5,w29,w32,z0,z0,z0,z0,z0,z0,z0,z0,z0,z0,z0,z0]),n0l,zI,(D.v (.int .u8 (3 : Int))),w1,w2,w3,z0,z0,z0,z0,z0,z0,z0,z0,z0,z0,z0,z0,z0,(D.list 1 (some 1) [(D.v (.int .u8 (3 : Int))),w1,w2,w4,z0,z0,z0,z0,z0,z0,z0,z0,z0,z0,z0,z0,z0]),n0l,(D.v (.int .i64 (1 : Int))),(D.v (.int .u8 (3 : Int))),w1,w2,w4,z0,z0,z0,z0,z0,z0,z0,z0,z0,z0,z0,z0,z0,(D.list 1 (some 1) [(D.v (.int .u8 (3 : Int))),w1,w2,w4,z0,z0,z0,z0,z0,z0,z0,z0,z0,z0,z0,z0,z0]),n0l])]),n0l]
def Zwv : D := (D.tup [(D.agg [(D.list 3 (some 3) [(D.v (.int .i64 (-1 : Int))),(D.v (.int .u8 (5 : Int))),w2,w5,w29,w32,z0,z0,z0,z0,z0,z0,z0,z0,z0,z0,z0,z0,(D.list 1 (some 1) [(D.v (.int .u8 (5 : Int))),w2,w5,w29,w32,z0,z0,z0,z0,z0,z0,z0,z0,z0,z0,z0,z0]),n0l,zI,(D.v (.int .u8 (3 : Int))),w1,w2,w3,z0,z0,z0,z0,z0,z0,z0,z0,z0,z0,z0,z0,z0,(D.list 1 (some 1) [(D.v (.int .u8 (3 : Int))),w1,w2,w4,z0,z0,z0,z0,z0,z0,z0,z0,z0,z0,z0,z0,z0]),n0l,(D.v (.int .i64 (1 : Int))),(D.v (.int .u8 (3 : Int))),w1,w2,w4,z0,z0,z0,z0,z0,z0,z0,z0,z0,z0,z0,z0,z0,(D.list 1 (some 1) [(D.v (.int .u8 (3 : Int))),w1,w2,w4,z0,z0,z0,z0,z0,z0,z0,z0,z0,z0,z0,z0,z0]),n0l])]),zI])
def Zww : List D := [(D.agg [(D.list 3 (some 3) [(D.v (.int .i64 (-1 : Int))),(D.v (.int .u8 (5 : Int))),w2,w5,w29,w32,z0,z0,z0,z0,z0,z0,z0,z0,z0,z0,z0,z0,(D.list 1 (some 1) [(D.v (.int .u8 (5 : Int))),w2,w5,w29,w32,z0,z0,z0,z0,z0,z0,z0,z0,z0,z0,z0,z0]),n0l,zI,(D.v (.int .u8 (3 : Int))),w1,w2,w3,z0,z0,z0,z0,z0,z0,z0,z0,z0,z0,z0,z0,z0,(D.list 1 (some 1) [(D.v (.int .u8 (3 : Int))),w1,w2,w3,z0,z0,z0,z0,z0,z0,z0,z0,z0,z0,z0,z0,z0]),n0l,zI,(D.v (.int .u8 (5 : Int))),w2,w5,w29,w32,z0,z0,z0,z0,z0,z0,z0,z0,z0,z0,z0,z0,(D.list 1 (some 1) [(D.v (.int .u8 (5 : Int))),w2,w5,w29,w32,z0,z0,z0,z0,z0,z0,z0,z0,z0,z0,z0,z0]),n0l])]),(D.list 1 none [(D.v (.int .i64 (1 : Int)))])]
def Zwx : D := (D.tup [(D.agg [(D.list 2 (some 2) [(D.v (.int .i64 (-1 : Int))),(D.v (.int .u8 (5 : Int))),w2,w5,w29,w32,z0,z0,z0,z0,z0,z0,z0,z0,z0,z0,z0,z0,(D.list 1 (some 1) [(D.v (.int .u8 (5 : Int))),w2,w5,w29,w32,z0,z0,z0,z0,z0,z0,z0,z0,z0,z0,z0,z0]),n0l,zI,(D.v (.int .u8 (5 : Int))),w2,w5,w29,w32,z0,z0,z0,z0,z0,z0,z0,z0,z0,z0,z0,z0,(D.list 1 (some 1) [(D.v (.int .u8 (5 : Int))),w2,w5,w29,w32,z0,z0,z0,z0,z0,z0,z0,z0,z0,z0,z0,z0]),n0l])]),zI])
def Zwy : List D := [(D.agg [(D.list 2 (some 2) [(D.v (.int .i64 (-1 : Int))),(D.v (.int .u8 (5 : Int))),w2,w5,w29,w32,z0,z0,z0,z0,z0,z0,z0,z0,z0,z0,z0,z0,(D.list 1 (some 1) [(D.v (.int .u8 (5 : Int))),w2,w5,w29,w32,z0,z0,z0,z0,z0,z0,z0,z0,z0,z0,z0,z0]),n0l,zI,(D.v (.int .u8 (5 : Int))),w2,w5,w29,w32,z0,z0,z0,z0,z0,z0,z0,z0,z0,z0,z0,z0,(D.list 1 (some 1) [(D.v (.int .u8 (5 : Int))),w2,w5,w29,w32,z0,z0,z0,z0,z0,z0,z0,z0,z0,z0,z0,z0]),n0l])]),(D.list 0 none [])]
def Zwz : D := (D.tup [(D.agg [(D.list 2 (some 2) [(D.v (.int .i64 (-1 : Int))),(D.v (.int .u8 (5 : Int))),w2,w5,w29,w32,z0,z0,z0,z0,z0,z0,z0,z0,z0,z0,z0,z0,(D.list 1 (some 1) [(D.v (.int .u8 (5 : Int))),w2,w5,w29,w32,z0,z0,z0,z0,z0,z0,z0,z0,z0,z0,z0,z0]),n0l,zI,(D.v (.int .u8 (5 : Int))),w2,w5,w29,w32,z0,z0,z0,z0,z0,z0,z0,z0,z0,z0,z0,z0,(D.list 1 (some 1) [(D.v (.int .u8 (5 : Int))),w2,w5,w29,w32,z0,z0,z0,z0,z0,z0,z0,z0,z0,z0,z0,z0]),n0l])]),zI])
def Zx0 : List D := [(D.agg [(D.list 3 none [(D.v (.int .i64 (-1 : Int))),(D.v (.int .u8 (5 : Int))),w2,w5,w29,w32,z0,z0,z0,z0,z0,z0,z0,z0,z0,z0,z0,z0,(D.list 1 (some 1) [(D.v (.int .u8 (5 : Int))),w2,w5,w29,w32,z0,z0,z0,z0,z0,z0,z0,z0,z0,z0,z0,z0]),n0l,zI,(D.v (.int .u8 (5 : Int))),w2,w5,w29,w32,z0,z0,z0,z0,z0,z0,z0,z0,z0,z0,z0,z0,(D.list 1 (some 1) [(D.v (.int .u8 (5 : Int))),w2,w5,w29,w32,z0,z0,z0,z0,z0,z0,z0,z0,z0,z0,z0,z0]),n0l,(D.v (.int .i64 (1 : Int))),(D.v (.int .u8 (3 : Int))),w1,w2,w4,z0,z0,z0,z0,z0,z0,z0,z0,z0,z0,z0,z0,z0,(D.list 1 (some 1) [(D.v (.int .u8 (3 : Int))),w1,w2,w4,z0,z0,z0,z0,z0,z0,z0,z0,z0,z0,z0,z0,z0]),n0l])]),(D.list 0 none [])]
def Zx1 : D := (D.tup [(D.agg [(D.list 3 (some 3) [(D.v (.int .i64 (-1 : Int))),(D.v (.int .u8 (5 : Int))),w2,w5,w29,w32,z0,z0,z0,z0,z0,z0,z0,z0,z0,z0,z0,z0,(D.list 1 (some 1) [(D.v (.int .u8 (5 : Int))),w2,w5,w29,w32,z0,z0,z0,z0,z0,z0,z0,z0,z0,z0,z0,z0]),n0l,zI,(D.v (.int .u8 (5 : Int))),w2,w5,w29,w32,z0,z0,z0,z0,z0,z0,z0,z0,z0,z0,z0,z0,(D.list 1 (some 1) [(D.v (.int .u8 (5 : Int))),w2,w5,w29,w32,z0,z0,z0,z0,z0,z0,z0,z0,z0,z0,z0,z0]),n0l,(D.v (.int .i64 (1 : Int))),(D.v (.int .u8 (3 : Int))),w1,w2,w4,z0,z0,z0,z0,z0,z0,z0,z0,z0,z0,z0,z0,z0,(D.list 1 (some 1) [(D.v (.int .u8 (3 : Int))),w1,w2,w4,z0,z0,z0,z0,z0,z0,z0,z0,z0,z0,z0,z0,z0]),n0l])]),zI])
def Zx2 : List D := [(D.agg [(D.list 3 (some 3) [(D.v (.int .i64 (-1 : Int))),(D.v (.int .u8 (5 : Int))),w2,w5,w29,w32,z0,z0,z0,z0,z0,z0,z0,z0,z0,z0,z0,z0,(D.list 1 (some 1) [(D.v (.int .u8 (5 : Int))),w2,w5,w29,w32,z0,z0,z0,z0,z0,z0,z0,z0,z0,z0,z0,z0]),n0l,zI,(D.v (.int .u8 (5 : Int))),w2,w5,w29,w32,z0,z0,z0,z0,z0,z0,z0,z0,z0,z0,z0,z0,(D.list 1 (some 1) [(D.v (.int .u8 (5 : Int))),w2,w5,w29,w32,z0,z0,z0,z0,z0,z0,z0,z0,z0,z0,z0,z0]),n0l,(D.v (.int .i64 (1 : Int))),(D.v (.int .u8 (3 : Int))),w1,w2,w4,z0,z0,z0,z0,z0,z0,z0,z0,z0,z0,z0,z0,z0,(D.list 1 (some 1) [(D.v (.int .u8 (3 : Int))),w1,w2,w4,z0,z0,z0,z0,z0,z0,z0,z0,z0,z0,z0,z0,z0]),n0l])]),n0l]
def Zx3 : D := (D.tup [(D.agg [(D.list 3 (some 3) [(D.v (.int .i64 (-1 : Int))),(D.v (.int .u8 (5 : Int))),w2,w5,w29,w32,z0,z0,z0,z0,z0,z0,z0,z0,z0,z0,z0,z0,(D.list 1 (some 1) [(D.v (.int .u8 (5 : Int))),w2,w5,w29,w32,z0,z0,z0,z0,z0,z0,z0,z0,z0,z0,z0,z0]),n0l,zI,(D.v (.int .u8 (5 : Int))),w2,w5,w29,w32,z0,z0,z0,z0,z0,z0,z0,z0,z0,z0,z0,z0,(D.list 1 (some 1) [(D.v (.int .u8 (5 : Int))),w2,w5,w29,w32,z0,z0,z0,z0,z0,z0,z0,z0,z0,z0,z0,z0]),n0l,(D.v (.int .i64 (1 : Int))),(D.v (.int .u8 (3 : Int))),w1,w2,w4,z0,z0,z0,z0,z0,z0,z0,z0,z0,z0,z0,z0,z0,(D.list 1 (some 1) [(D.v (.int .u8 (3 : Int))),w1,w2,w4,z0,z0,z0,z0,z0,z0,z0,z0,z0,z0,z0,z0,z0]),n0l])]),zI])
def Zty : List D := [(D.agg [n0l]),n0l]
def Ztz : D := (D.tup [(D.agg [n0l]),zI])
theorem Z18a : funD Tg Z1c 100000 60 Z3 Tryz.f92 Zwk = some Zwl := by kernel_rfl
theorem Z18b : funD Tg Z1c 100000 60 Z3 Tryz.f92 Zwm = some Zwn := by kernel_rfl
theorem Z18c : funD Tg Z1c 100000 60 Z3 Tryz.f92 Zwo = some Zwp := by kernel_rfl
theorem Z18d : funD Tg Z1c 100000 60 Z3 Tryz.f92 Zwq = some Zwr := by kernel_rfl
theorem Z18e : funD Tg Z1c 100000 60 Z3 Tryz.f92 Zws = some Zwt := by kernel_rfl
theorem Z18f : funD Tg Z1c 100000 60 Z3 Tryz.f92 Zwu = some Zwv := by kernel_rfl
theorem Z18g : funD Tg Z1c 100000 60 Z3 Tryz.f92 Zww = some Zwx := by kernel_rfl
theorem Z18h : funD Tg Z1c 100000 60 Z3 Tryz.f92 Zwy = some Zwz := by kernel_rfl
theorem Z18i : funD Tg Z1c 100000 60 Z3 Tryz.f92 Zx0 = some Zx1 := by kernel_rfl
theorem Z18j : funD Tg Z1c 100000 60 Z3 Tryz.f92 Zx2 = some Zx3 := by kernel_rfl
theorem Z16l : funD Tg Z1c 100000 60 Z3 Tryz.f92 Zty = some Ztz := by kernel_rfl
def Z5o (ds : List D) : Option D := if isT Zwk ds then some Zwl else (if isT Zwm ds then some Zwn else (if isT Zwo ds then some Zwp else (if isT Zwq ds then some Zwr else (if isT Zws ds then some Zwt else (if isT Zwu ds then some Zwv else (if isT Zww ds then some Zwx else (if isT Zwy ds then some Zwz else (if isT Zx0 ds then some Zx1 else (if isT Zx2 ds then some Zx3 else (if isT Zty ds then some Ztz else (none)))))))))))
theorem td_trees_Delete : ∀ ds d,Z5o ds = some d → DataSem Tg 92 ds d := by
 intro ds d h
 unfold Z5o at h
 split at h
 ·rename_i ha; obtain rfl := isT_eq ha; cases h; exact Zx Z18a
 split at h
 ·rename_i ha; obtain rfl := isT_eq ha; cases h; exact Zx Z18b
 split at h
 ·rename_i ha; obtain rfl := isT_eq ha; cases h; exact Zx Z18c
 split at h
 ·rename_i ha; obtain rfl := isT_eq ha; cases h; exact Zx Z18d
 split at h
 ·rename_i ha; obtain rfl := isT_eq ha; cases h; exact Zx Z18e
 split at h
 ·rename_i ha; obtain rfl := isT_eq ha; cases h; exact Zx Z18f
 split at h
 ·rename_i ha; obtain rfl := isT_eq ha; cases h; exact Zx Z18g
 split at h
 ·rename_i ha; obtain rfl := isT_eq ha; cases h; exact Zx Z18h
 split at h
 ·rename_i ha; obtain rfl := isT_eq ha; cases h; exact Zx Z18i
 split at h
 ·rename_i ha; obtain rfl := isT_eq ha; cases h; exact Zx Z18j
 split at h
 ·rename_i ha; obtain rfl := isT_eq ha; cases h; exact Zx Z16l
 cases h
def Z18 : FnH := ⟨[],[]⟩
def Zp0 : FnH := ⟨[(9,⟨(bm 481036337408 72),[(36,20)],none,none⟩)],[]⟩
def Zf5 : FnH := ⟨[],[]⟩
def Zk0 : FnH := ⟨[(1,⟨(bm 19 21),[],none,none⟩)],[]⟩
def Zbi : FnH := ⟨[],[]⟩
def Zim : FnH := ⟨[(3,⟨(bm 14349 34),[(3,1),(11,1)],none,none⟩)],[]⟩
theorem Z7u : Enters Tg 72 := ⟨Tryz.f72,Tryz.func72,by kernel_rfl,by kernel_rfl⟩
theorem Zp1 : Enters Tg 130 := ⟨Tryz.f130,Tryz.func130,by kernel_rfl,by kernel_rfl⟩
theorem Zf6 : Enters Tg 132 := ⟨Tryz.f132,Tryz.func132,by kernel_rfl,by kernel_rfl⟩
theorem Zk1 : Enters Tg 131 := ⟨Tryz.f131,Tryz.func131,by kernel_rfl,by kernel_rfl⟩
theorem Zbj : Enters Tg 165 := ⟨Tryz.f165,Tryz.func165,by kernel_rfl,by kernel_rfl⟩
theorem Zin : Enters Tg 133 := ⟨Tryz.f133,Tryz.func133,by kernel_rfl,by kernel_rfl⟩
noncomputable def Z66 : Hints := ⟨[(92,Z5o),(149,Znu)],[(72,Tryz.f72,Z18),(130,Tryz.f130,Zp0),(132,Tryz.f132,Zf5),(131,Tryz.f131,Zk0),(165,Tryz.f165,Zbi),(133,Tryz.f133,Zim)],[303,305,306,308,253,1000032,1000060,2000026,2000040,2000062,2000034]⟩
theorem Z70 {m n : Nat} {ds : List D} {d : D} (h : funD Tg Z66 m n Z18 Tryz.f72 ds = some d) : DataSem Tg 72 ds d := Z0 (H := Z66) (SpOk.cons td_trees_Delete (SpOk.cons td_trees_Check SpOk.nil)) mixed (InlOk.cons Tryz.func72 Z7u (InlOk.cons Tryz.func130 Zp1 (InlOk.cons Tryz.func132 Zf6 (InlOk.cons Tryz.func131 Zk1 (InlOk.cons Tryz.func165 Zbj (InlOk.cons Tryz.func133 Zin InlOk.nil)))))) Tryz.func72 Z7u h
def Zx4 : List D := [(D.agg [(D.list 3 none [(D.v (.int .i64 (-1 : Int))),(D.v (.int .u8 (5 : Int))),w2,w5,w29,w32,z0,z0,z0,z0,z0,z0,z0,z0,z0,z0,z0,z0,(D.list 1 (some 1) [(D.v (.int .u8 (5 : Int))),w2,w5,w29,w32,z0,z0,z0,z0,z0,z0,z0,z0,z0,z0,z0,z0]),n0l,zI,(D.v (.int .u8 (3 : Int))),w1,w2,w3,z0,z0,z0,z0,z0,z0,z0,z0,z0,z0,z0,z0,z0,(D.list 1 (some 1) [(D.v (.int .u8 (3 : Int))),w1,w2,w3,z0,z0,z0,z0,z0,z0,z0,z0,z0,z0,z0,z0,z0]),n0l,zI,(D.v (.int .u8 (5 : Int))),w2,w5,w29,w32,z0,z0,z0,z0,z0,z0,z0,z0,z0,z0,z0,z0,(D.list 1 (some 1) [(D.v (.int .u8 (5 : Int))),w2,w5,w29,w32,z0,z0,z0,z0,z0,z0,z0,z0,z0,z0,z0,z0]),n0l])]),(D.v (.int .i64 (1 : Int)))]
def Zx5 : D := (D.tup [(D.agg [(D.list 3 (some 3) [(D.v (.int .i64 (-1 : Int))),(D.v (.int .u8 (5 : Int))),w2,w5,w29,w32,z0,z0,z0,z0,z0,z0,z0,z0,z0,z0,z0,z0,(D.list 1 (some 1) [(D.v (.int .u8 (5 : Int))),w2,w5,w29,w32,z0,z0,z0,z0,z0,z0,z0,z0,z0,z0,z0,z0]),n0l,zI,(D.v (.int .u8 (3 : Int))),w1,w2,w3,z0,z0,z0,z0,z0,z0,z0,z0,z0,z0,z0,z0,z0,(D.list 1 (some 1) [(D.v (.int .u8 (3 : Int))),w1,w2,w3,z0,z0,z0,z0,z0,z0,z0,z0,z0,z0,z0,z0,z0]),n0l,zI,(D.v (.int .u8 (5 : Int))),w2,w5,w29,w32,z0,z0,z0,z0,z0,z0,z0,z0,z0,z0,z0,z0,(D.list 1 (some 1) [(D.v (.int .u8 (5 : Int))),w2,w5,w29,w32,z0,z0,z0,z0,z0,z0,z0,z0,z0,z0,z0,z0]),n0l])]),zI])
def Zx6 : List D := [(D.agg [(D.list 4 none [(D.v (.int .i64 (-1 : Int))),(D.v (.int .u8 (5 : Int))),w2,w5,w29,w32,z0,z0,z0,z0,z0,z0,z0,z0,z0,z0,z0,z0,(D.list 1 (some 1) [(D.v (.int .u8 (5 : Int))),w2,w5,w29,w32,z0,z0,z0,z0,z0,z0,z0,z0,z0,z0,z0,z0]),n0l,zI,(D.v (.int .u8 (3 : Int))),w1,w2,w3,z0,z0,z0,z0,z0,z0,z0,z0,z0,z0,z0,z0,z0,(D.list 1 (some 1) [(D.v (.int .u8 (3 : Int))),w1,w2,w4,z0,z0,z0,z0,z0,z0,z0,z0,z0,z0,z0,z0,z0]),n0l,zI,(D.v (.int .u8 (5 : Int))),w2,w5,w29,w32,z0,z0,z0,z0,z0,z0,z0,z0,z0,z0,z0,z0,(D.list 1 (some 1) [(D.v (.int .u8 (5 : Int))),w2,w5,w29,w32,z0,z0,z0,z0,z0,z0,z0,z0,z0,z0,z0,z0]),n0l,(D.v (.int .i64 (1 : Int))),(D.v (.int .u8 (3 : Int))),w1,w2,w4,z0,z0,z0,z0,z0,z0,z0,z0,z0,z0,z0,z0,z0,(D.list 1 (some 1) [(D.v (.int .u8 (3 : Int))),w1,w2,w4,z0,z0,z0,z0,z0,z0,z0,z0,z0,z0,z0,z0,z0]),n0l])]),(D.v (.int .i64 (2 : Int)))]
def Zx7 : D := (D.tup [(D.agg [(D.list 3 (some 3) [(D.v (.int .i64 (-1 : Int))),(D.v (.int .u8 (5 : Int))),w2,w5,w29,w32,z0,z0,z0,z0,z0,z0,z0,z0,z0,z0,z0,z0,(D.list 1 (some 1) [(D.v (.int .u8 (5 : Int))),w2,w5,w29,w32,z0,z0,z0,z0,z0,z0,z0,z0,z0,z0,z0,z0]),n0l,zI,(D.v (.int .u8 (3 : Int))),w1,w2,w3,z0,z0,z0,z0,z0,z0,z0,z0,z0,z0,z0,z0,z0,(D.list 1 (some 1) [(D.v (.int .u8 (3 : Int))),w1,w2,w4,z0,z0,z0,z0,z0,z0,z0,z0,z0,z0,z0,z0,z0]),n0l,(D.v (.int .i64 (1 : Int))),(D.v (.int .u8 (3 : Int))),w1,w2,w4,z0,z0,z0,z0,z0,z0,z0,z0,z0,z0,z0,z0,z0,(D.list 1 (some 1) [(D.v (.int .u8 (3 : Int))),w1,w2,w4,z0,z0,z0,z0,z0,z0,z0,z0,z0,z0,z0,z0,z0]),n0l])]),zI])
def Zx8 : List D := [(D.agg [(D.list 2 (some 2) [(D.v (.int .i64 (-1 : Int))),(D.v (.int .u8 (5 : Int))),w2,w5,w29,w32,z0,z0,z0,z0,z0,z0,z0,z0,z0,z0,z0,z0,(D.list 1 (some 1) [(D.v (.int .u8 (5 : Int))),w2,w5,w29,w32,z0,z0,z0,z0,z0,z0,z0,z0,z0,z0,z0,z0]),n0l,zI,(D.v (.int .u8 (5 : Int))),w2,w5,w29,w32,z0,z0,z0,z0,z0,z0,z0,z0,z0,z0,z0,z0,(D.list 1 (some 1) [(D.v (.int .u8 (5 : Int))),w2,w5,w29,w32,z0,z0,z0,z0,z0,z0,z0,z0,z0,z0,z0,z0]),n0l])]),(D.v (.int .i64 (1 : Int)))]
def Zx9 : D := (D.tup [(D.agg [(D.list 2 (some 2) [(D.v (.int .i64 (-1 : Int))),(D.v (.int .u8 (5 : Int))),w2,w5,w29,w32,z0,z0,z0,z0,z0,z0,z0,z0,z0,z0,z0,z0,(D.list 1 (some 1) [(D.v (.int .u8 (5 : Int))),w2,w5,w29,w32,z0,z0,z0,z0,z0,z0,z0,z0,z0,z0,z0,z0]),n0l,zI,(D.v (.int .u8 (5 : Int))),w2,w5,w29,w32,z0,z0,z0,z0,z0,z0,z0,z0,z0,z0,z0,z0,(D.list 1 (some 1) [(D.v (.int .u8 (5 : Int))),w2,w5,w29,w32,z0,z0,z0,z0,z0,z0,z0,z0,z0,z0,z0,z0]),n0l])]),zI])
def Zxa : List D := [(D.agg [(D.list 3 none [(D.v (.int .i64 (-1 : Int))),(D.v (.int .u8 (5 : Int))),w2,w5,w29,w32,z0,z0,z0,z0,z0,z0,z0,z0,z0,z0,z0,z0,(D.list 1 (some 1) [(D.v (.int .u8 (5 : Int))),w2,w5,w29,w32,z0,z0,z0,z0,z0,z0,z0,z0,z0,z0,z0,z0]),n0l,zI,(D.v (.int .u8 (5 : Int))),w2,w5,w29,w32,z0,z0,z0,z0,z0,z0,z0,z0,z0,z0,z0,z0,(D.list 1 (some 1) [(D.v (.int .u8 (5 : Int))),w2,w5,w29,w32,z0,z0,z0,z0,z0,z0,z0,z0,z0,z0,z0,z0]),n0l,(D.v (.int .i64 (1 : Int))),(D.v (.int .u8 (3 : Int))),w1,w2,w4,z0,z0,z0,z0,z0,z0,z0,z0,z0,z0,z0,z0,z0,(D.list 1 (some 1) [(D.v (.int .u8 (3 : Int))),w1,w2,w4,z0,z0,z0,z0,z0,z0,z0,z0,z0,z0,z0,z0,z0]),n0l])]),(D.v (.int .i64 (2 : Int)))]
def Zxb : D := (D.tup [(D.agg [(D.list 3 (some 3) [(D.v (.int .i64 (-1 : Int))),(D.v (.int .u8 (5 : Int))),w2,w5,w29,w32,z0,z0,z0,z0,z0,z0,z0,z0,z0,z0,z0,z0,(D.list 1 (some 1) [(D.v (.int .u8 (5 : Int))),w2,w5,w29,w32,z0,z0,z0,z0,z0,z0,z0,z0,z0,z0,z0,z0]),n0l,zI,(D.v (.int .u8 (5 : Int))),w2,w5,w29,w32,z0,z0,z0,z0,z0,z0,z0,z0,z0,z0,z0,z0,(D.list 1 (some 1) [(D.v (.int .u8 (5 : Int))),w2,w5,w29,w32,z0,z0,z0,z0,z0,z0,z0,z0,z0,z0,z0,z0]),n0l,(D.v (.int .i64 (1 : Int))),(D.v (.int .u8 (3 : Int))),w1,w2,w4,z0,z0,z0,z0,z0,z0,z0,z0,z0,z0,z0,z0,z0,(D.list 1 (some 1) [(D.v (.int .u8 (3 : Int))),w1,w2,w4,z0,z0,z0,z0,z0,z0,z0,z0,z0,z0,z0,z0,z0]),n0l])]),zI])
theorem Z18k : funD Tg Z66 100000 60 Z18 Tryz.f72 Zx4 = some Zx5 := by kernel_rfl
theorem Z18l : funD Tg Z66 100000 60 Z18 Tryz.f72 Zx6 = some Zx7 := by kernel_rfl
theorem Z18m : funD Tg Z66 100000 60 Z18 Tryz.f72 Zx8 = some Zx9 := by kernel_rfl
theorem Z18n : funD Tg Z66 100000 60 Z18 Tryz.f72 Zxa = some Zxb := by kernel_rfl
def Zk2 (ds : List D) : Option D := if isT Zx4 ds then some Zx5 else (if isT Zx6 ds then some Zx7 else (if isT Zx8 ds then some Zx9 else (if isT Zxa ds then some Zxb else (none))))
theorem td_prunes_Prune : ∀ ds d,Zk2 ds = some d → DataSem Tg 72 ds d := by
 intro ds d h
 unfold Zk2 at h
 split at h
 ·rename_i ha; obtain rfl := isT_eq ha; cases h; exact Z70 Z18k
 split at h
 ·rename_i ha; obtain rfl := isT_eq ha; cases h; exact Z70 Z18l
 split at h
 ·rename_i ha; obtain rfl := isT_eq ha; cases h; exact Z70 Z18m
 split at h
 ·rename_i ha; obtain rfl := isT_eq ha; cases h; exact Z70 Z18n
 cases h
def Z12 : FnH := ⟨[],[]⟩
theorem Z5a : Enters Tg 189 := ⟨Tryz.f189,Tryz.func189,by kernel_rfl,by kernel_rfl⟩
noncomputable def Z5p : Hints := ⟨[],[(189,Tryz.f189,Z12)],[303,305,306,308,253,1000032,1000060,2000026,2000040,2000062,2000034]⟩
theorem Z85 {m n : Nat} {ds : List D} {d : D} (h : funD Tg Z5p m n Z12 Tryz.f189 ds = some d) : DataSem Tg 189 ds d := Z0 (H := Z5p) SpOk.nil mixed (InlOk.cons Tryz.func189 Z5a InlOk.nil) Tryz.func189 Z5a h
def Zq2 : List D := [(D.list 1 none [zI])]
def Zq3 : D := (D.list 1 (some 1) [zI])
def Zq4 : List D := [(D.list 2 none [(D.v (.int .i64 (1 : Int))),(D.v (.int .i64 (2 : Int)))])]
def Zq5 : D := (D.list 2 (some 2) [(D.v (.int .i64 (1 : Int))),(D.v (.int .i64 (2 : Int)))])
def Zq6 : List D := [(D.list 1 none [(D.v (.int .i64 (1 : Int)))])]
def Zq7 : D := (D.list 1 (some 1) [(D.v (.int .i64 (1 : Int)))])
theorem Z13v : funD Tg Z5p 100000 60 Z12 Tryz.f189 Zq2 = some Zq3 := by kernel_rfl
theorem Z13w : funD Tg Z5p 100000 60 Z12 Tryz.f189 Zq4 = some Zq5 := by kernel_rfl
theorem Z13x : funD Tg Z5p 100000 60 Z12 Tryz.f189 Zq6 = some Zq7 := by kernel_rfl
def Zk3 (ds : List D) : Option D := if isT Zq2 ds then some Zq3 else (if isT Zq4 ds then some Zq5 else (if isT Zq6 ds then some Zq7 else (none)))
theorem td_trees_clone_int : ∀ ds d,Zk3 ds = some d → DataSem Tg 189 ds d := by
 intro ds d h
 unfold Zk3 at h
 split at h
 ·rename_i ha; obtain rfl := isT_eq ha; cases h; exact Z85 Z13v
 split at h
 ·rename_i ha; obtain rfl := isT_eq ha; cases h; exact Z85 Z13w
 split at h
 ·rename_i ha; obtain rfl := isT_eq ha; cases h; exact Z85 Z13x
 cases h
def Z1i : FnH := ⟨[(6,⟨(bm 3670274 36),[(8,1),(19,1)],none,none⟩)],[]⟩
theorem Z9w : Enters Tg 162 := ⟨Tryz.f162,Tryz.func162,by kernel_rfl,by kernel_rfl⟩
noncomputable def Z7d : Hints := ⟨[(182,Zft),(189,Zk3)],[(162,Tryz.f162,Z1i)],[303,305,306,308,253,1000032,1000060,2000026,2000040,2000062,2000034]⟩
theorem Z86 {m n : Nat} {ds : List D} {d : D} (h : funD Tg Z7d m n Z1i Tryz.f162 ds = some d) : DataSem Tg 162 ds d := Z0 (H := Z7d) (SpOk.cons td_trees_examine (SpOk.cons td_trees_clone_int SpOk.nil)) mixed (InlOk.cons Tryz.func162 Z9w InlOk.nil) Tryz.func162 Z9w h
def Zzq : List D := [(D.agg [(D.list 1 (some 1) [(D.v (.int .i64 (-1 : Int))),(D.v (.int .u8 (5 : Int))),w2,w5,w29,w32,z0,z0,z0,z0,z0,z0,z0,z0,z0,z0,z0,z0,(D.list 1 (some 1) [(D.v (.int .u8 (5 : Int))),w2,w5,w29,w32,z0,z0,z0,z0,z0,z0,z0,z0,z0,z0,z0,z0]),n0l])]),zI]
def Zzr : D := (D.tup [(D.list 1 (some 1) [zI]),zI])
def Zzs : List D := [(D.agg [(D.list 3 (some 3) [(D.v (.int .i64 (-1 : Int))),(D.v (.int .u8 (5 : Int))),w2,w5,w29,w32,z0,z0,z0,z0,z0,z0,z0,z0,z0,z0,z0,z0,(D.list 1 (some 1) [(D.v (.int .u8 (5 : Int))),w2,w5,w29,w32,z0,z0,z0,z0,z0,z0,z0,z0,z0,z0,z0,z0]),n0l,zI,(D.v (.int .u8 (3 : Int))),w1,w2,w3,z0,z0,z0,z0,z0,z0,z0,z0,z0,z0,z0,z0,z0,(D.list 1 (some 1) [(D.v (.int .u8 (3 : Int))),w1,w2,w3,z0,z0,z0,z0,z0,z0,z0,z0,z0,z0,z0,z0,z0]),n0l,zI,(D.v (.int .u8 (5 : Int))),w2,w5,w29,w32,z0,z0,z0,z0,z0,z0,z0,z0,z0,z0,z0,z0,(D.list 1 (some 1) [(D.v (.int .u8 (5 : Int))),w2,w5,w29,w32,z0,z0,z0,z0,z0,z0,z0,z0,z0,z0,z0,z0]),n0l])]),(D.v (.int .i64 (1 : Int)))]
def Zzt : D := (D.tup [(D.list 2 (some 2) [(D.v (.int .i64 (1 : Int))),(D.v (.int .i64 (2 : Int)))]),zI])
def Zzu : List D := [(D.agg [(D.list 3 none [(D.v (.int .i64 (-1 : Int))),(D.v (.int .u8 (5 : Int))),w2,w5,w29,w32,z0,z0,z0,z0,z0,z0,z0,z0,z0,z0,z0,z0,(D.list 1 (some 1) [(D.v (.int .u8 (5 : Int))),w2,w5,w29,w32,z0,z0,z0,z0,z0,z0,z0,z0,z0,z0,z0,z0]),n0l,zI,(D.v (.int .u8 (3 : Int))),w1,w2,w3,z0,z0,z0,z0,z0,z0,z0,z0,z0,z0,z0,z0,z0,(D.list 1 (some 1) [(D.v (.int .u8 (3 : Int))),w1,w2,w4,z0,z0,z0,z0,z0,z0,z0,z0,z0,z0,z0,z0,z0]),n0l,zI,(D.v (.int .u8 (5 : Int))),w2,w5,w29,w32,z0,z0,z0,z0,z0,z0,z0,z0,z0,z0,z0,z0,(D.list 1 (some 1) [(D.v (.int .u8 (5 : Int))),w2,w5,w29,w32,z0,z0,z0,z0,z0,z0,z0,z0,z0,z0,z0,z0]),n0l])]),(D.v (.int .i64 (1 : Int)))]
def Zzv : D := (D.tup [(D.list 2 (some 2) [(D.v (.int .i64 (1 : Int))),(D.v (.int .i64 (2 : Int)))]),zI])
def Zzw : List D := [(D.agg [(D.list 2 (some 2) [(D.v (.int .i64 (-1 : Int))),(D.v (.int .u8 (5 : Int))),w2,w5,w29,w32,z0,z0,z0,z0,z0,z0,z0,z0,z0,z0,z0,z0,(D.list 1 (some 1) [(D.v (.int .u8 (5 : Int))),w2,w5,w29,w32,z0,z0,z0,z0,z0,z0,z0,z0,z0,z0,z0,z0]),n0l,zI,(D.v (.int .u8 (5 : Int))),w2,w5,w29,w32,z0,z0,z0,z0,z0,z0,z0,z0,z0,z0,z0,z0,(D.list 1 (some 1) [(D.v (.int .u8 (5 : Int))),w2,w5,w29,w32,z0,z0,z0,z0,z0,z0,z0,z0,z0,z0,z0,z0]),n0l])]),(D.v (.int .i64 (1 : Int)))]
def Zzx : D := (D.tup [(D.list 1 (some 1) [(D.v (.int .i64 (1 : Int)))]),zI])
theorem Z1a1 : funD Tg Z7d 100000 60 Z1i Tryz.f162 Zzq = some Zzr := by kernel_rfl
theorem Z1a2 : funD Tg Z7d 100000 60 Z1i Tryz.f162 Zzs = some Zzt := by kernel_rfl
theorem Z1a3 : funD Tg Z7d 100000 60 Z1i Tryz.f162 Zzu = some Zzv := by kernel_rfl
theorem Z1a4 : funD Tg Z7d 100000 60 Z1i Tryz.f162 Zzw = some Zzx := by kernel_rfl
def Znv (ds : List D) : Option D := if isT Zzq ds then some Zzr else (if isT Zzs ds then some Zzt else (if isT Zzu ds then some Zzv else (if isT Zzw ds then some Zzx else (none))))
theorem td_trees_Level : ∀ ds d,Znv ds = some d → DataSem Tg 162 ds d := by
 intro ds d h
 unfold Znv at h
 split at h
 ·rename_i ha; obtain rfl := isT_eq ha; cases h; exact Z86 Z1a1
 split at h
 ·rename_i ha; obtain rfl := isT_eq ha; cases h; exact Z86 Z1a2
 split at h
 ·rename_i ha; obtain rfl := isT_eq ha; cases h; exact Z86 Z1a3
 split at h
 ·rename_i ha; obtain rfl := isT_eq ha; cases h; exact Z86 Z1a4
 cases h
def Z23 : FnH := ⟨[(5,⟨(bm 7176 28),[(3,17),(10,18)],none,none⟩)],[]⟩
def Ze1 : FnH := ⟨[],[]⟩
def Z5u : FnH := ⟨[(4,⟨(bm 9 61),[],none,none⟩),(9,⟨(bm 57 61),[(4,17)],none,none⟩)],[]⟩
def Z9m : FnH := ⟨[],[]⟩
theorem Z5z : Enters Tg 163 := ⟨Tryz.f163,Tryz.func163,by kernel_rfl,by kernel_rfl⟩
theorem Ze2 : Enters Tg 172 := ⟨Tryz.f172,Tryz.func172,by kernel_rfl,by kernel_rfl⟩
theorem Z5v : Enters Tg 204 := ⟨Tryz.f204,Tryz.func204,by kernel_rfl,by kernel_rfl⟩
theorem Z9n : Enters Tg 203 := ⟨Tryz.f203,Tryz.func203,by kernel_rfl,by kernel_rfl⟩
noncomputable def Z9x : Hints := ⟨[(66,Z30),(114,Zas),(144,Z2t)],[(163,Tryz.f163,Z23),(172,Tryz.f172,Ze1),(204,Tryz.f204,Z5u),(203,Tryz.f203,Z9m)],[303,305,306,308,253,1000032,1000060,2000026,2000040,2000062,2000034]⟩
noncomputable def Z9y {R : Type} : ExtTab R := [(164,sortE 17 144 oidCmp oidsOk)]
theorem Zln {m n : Nat} {ds : List D} {d : D} (h : funE Tg Z9x Z9y m n Z23 Tryz.f163 ds = some d) : DataSem Tg 163 ds d := Zrd (H := Z9x) (ext := Z9y) (SpOk.cons td_records_Check (SpOk.cons td_oids_Any (SpOk.cons td_oids_Compare SpOk.nil))) mixed (InlOk.cons Tryz.func163 Z5z (InlOk.cons Tryz.func172 Ze2 (InlOk.cons Tryz.func204 Z5v (InlOk.cons Tryz.func203 Z9n InlOk.nil)))) (ExtOk.cons Z162 ExtOk.nil) Tryz.func163 Z5z h
def Zs3 : List D := [(D.agg [bf,bt,(D.list 2 (some 2) [(D.v (.int .u8 (3 : Int))),w1,w2,w3,z0,z0,z0,z0,z0,z0,z0,z0,z0,z0,z0,z0,z0,n0l,(D.v (.int .u8 (5 : Int))),w2,w5,w29,w32,z0,z0,z0,z0,z0,z0,z0,z0,z0,z0,z0,z0,n0l]),bt,(D.list 1 (some 1) [(D.v (.int .u8 (3 : Int))),w1,w2,w3,z0,z0,z0,z0,z0,z0,z0,z0,z0,z0,z0,z0,z0,(D.v (.int .u8 (3 : Int))),w1,w2,w4,z0,z0,z0,z0,z0,z0,z0,z0,z0,z0,z0,z0,z0]),(D.v (.int .i64 (-1 : Int))),(D.v (.int .i64 (-1 : Int))),(D.v (.int .i64 (-1 : Int)))])]
def Zs4 : D := (D.list 1 (some 1) [(D.v (.int .u8 (3 : Int))),w1,w2,w3,z0,z0,z0,z0,z0,z0,z0,z0,z0,z0,z0,z0,z0])
def Zs5 : List D := [(D.agg [bf,bt,(D.list 1 (some 1) [(D.v (.int .u8 (3 : Int))),w1,w2,w4,z0,z0,z0,z0,z0,z0,z0,z0,z0,z0,z0,z0,z0,n0l]),bf,n0l,(D.v (.int .i64 (-1 : Int))),(D.v (.int .i64 (-1 : Int))),(D.v (.int .i64 (-1 : Int)))])]
def Zs6 : D := (D.list 1 (some 1) [(D.v (.int .u8 (3 : Int))),w1,w2,w4,z0,z0,z0,z0,z0,z0,z0,z0,z0,z0,z0,z0,z0])
theorem Z14v : funE Tg Z9x Z9y 100000 60 Z23 Tryz.f163 Zs3 = some Zs4 := by kernel_rfl
theorem Z14w : funE Tg Z9x Z9y 100000 60 Z23 Tryz.f163 Zs5 = some Zs6 := by kernel_rfl
def Zni (ds : List D) : Option D := if isT Zs3 ds then some Zs4 else (if isT Zs5 ds then some Zs6 else (none))
theorem td_records_Listed : ∀ ds d,Zni ds = some d → DataSem Tg 163 ds d := by
 intro ds d h
 unfold Zni at h
 split at h
 ·rename_i ha; obtain rfl := isT_eq ha; cases h; exact Zln Z14v
 split at h
 ·rename_i ha; obtain rfl := isT_eq ha; cases h; exact Zln Z14w
 cases h
def Z1 : FnH := ⟨[],[]⟩
def Z9o : FnH := ⟨[],[]⟩
def Z8v : FnH := ⟨[],[]⟩
def Zag : FnH := ⟨[(6,⟨(bm 15393162788985 97),[(4,20),(41,20)],none,none⟩),(15,⟨(bm 516508834063867446313 97),[(10,20),(66,20)],none,none⟩),(18,⟨(bm 264969031874763999415337 97),[(10,20),(66,20),(75,17)],none,none⟩)],[]⟩
def Zgw : FnH := ⟨[],[]⟩
def Zah : FnH := ⟨[(3,⟨(bm 939524131 100),[(27,18)],none,none⟩),(8,⟨(bm 30786325577761 100),[(42,20)],none,none⟩),(11,⟨(bm 3971435999526945 100),[(42,20),(49,17)],none,none⟩)],[]⟩
def Z6u : FnH := ⟨[(3,⟨(bm 57385 71),[(5,17),(13,17)],none,none⟩),(14,⟨(bm 15762598695796769 71),[(5,17),(51,17)],none,none⟩)],[]⟩
def Z8w : FnH := ⟨[],[]⟩
def Z87 : FnH := ⟨[],[]⟩
def Z8x : FnH := ⟨[],[]⟩
def Zgx : FnH := ⟨[(2,⟨(bm 448 21),[(6,2)],some 1000000,none⟩)],[]⟩
theorem Z4b : Enters Tg 18 := ⟨Tryz.f18,Tryz.func18,by kernel_rfl,by kernel_rfl⟩
theorem Z9p : Enters Tg 65 := ⟨Tryz.f65,Tryz.func65,by kernel_rfl,by kernel_rfl⟩
theorem Z8y : Enters Tg 69 := ⟨Tryz.f69,Tryz.func69,by kernel_rfl,by kernel_rfl⟩
theorem Zai : Enters Tg 70 := ⟨Tryz.f70,Tryz.func70,by kernel_rfl,by kernel_rfl⟩
theorem Zgy : Enters Tg 124 := ⟨Tryz.f124,Tryz.func124,by kernel_rfl,by kernel_rfl⟩
theorem Zaj : Enters Tg 125 := ⟨Tryz.f125,Tryz.func125,by kernel_rfl,by kernel_rfl⟩
theorem Z6v : Enters Tg 126 := ⟨Tryz.f126,Tryz.func126,by kernel_rfl,by kernel_rfl⟩
theorem Z8z : Enters Tg 127 := ⟨Tryz.f127,Tryz.func127,by kernel_rfl,by kernel_rfl⟩
theorem Z88 : Enters Tg 129 := ⟨Tryz.f129,Tryz.func129,by kernel_rfl,by kernel_rfl⟩
theorem Z90 : Enters Tg 71 := ⟨Tryz.f71,Tryz.func71,by kernel_rfl,by kernel_rfl⟩
theorem Zgz : Enters Tg 68 := ⟨Tryz.f68,Tryz.func68,by kernel_rfl,by kernel_rfl⟩
noncomputable def Zl : Hints := ⟨[(66,Z30),(67,Z8u),(72,Zk2),(114,Zas),(144,Z2t),(162,Znv),(163,Zni)],[(18,Tryz.f18,Z1),(65,Tryz.f65,Z9o),(69,Tryz.f69,Z8v),(70,Tryz.f70,Zag),(124,Tryz.f124,Zgw),(125,Tryz.f125,Zah),(126,Tryz.f126,Z6u),(127,Tryz.f127,Z8w),(129,Tryz.f129,Z87),(71,Tryz.f71,Z8x),(68,Tryz.f68,Zgx)],[303,305,306,308,253,1000032,1000060,2000026,2000040,2000062,2000034]⟩
noncomputable def Zm {R : Type} : ExtTab R := [(128,cloneE Tg Tryz.f128),(164,sortE 17 144 oidCmp oidsOk)]
theorem Zk {m n : Nat} {ds : List D} {d : D} (h : funE Tg Zl Zm m n Z1 Tryz.f18 ds = some d) : DataSem Tg 18 ds d := Zrd (H := Zl) (ext := Zm) (SpOk.cons td_records_Check (SpOk.cons td_ptrees_copied (SpOk.cons td_prunes_Prune (SpOk.cons td_oids_Any (SpOk.cons td_oids_Compare (SpOk.cons td_trees_Level (SpOk.cons td_records_Listed SpOk.nil))))))) mixed (InlOk.cons Tryz.func18 Z4b (InlOk.cons Tryz.func65 Z9p (InlOk.cons Tryz.func69 Z8y (InlOk.cons Tryz.func70 Zai (InlOk.cons Tryz.func124 Zgy (InlOk.cons Tryz.func125 Zaj (InlOk.cons Tryz.func126 Z6v (InlOk.cons Tryz.func127 Z8z (InlOk.cons Tryz.func129 Z88 (InlOk.cons Tryz.func71 Z90 (InlOk.cons Tryz.func68 Zgz InlOk.nil))))))))))) (ExtOk.cons Z1c5 (ExtOk.cons Z162 ExtOk.nil)) Tryz.func18 Z4b h
def Zlo : List D := [(D.agg [(D.v (.int .i64 (2 : Int))),zI,(D.v (.int .i64 (9 : Int))),(D.v (.int .i64 (1 : Int))),bf,(D.v (.int .u8 (0 : Int))),(D.list 1 (some 1) [(D.v (.int .u8 (3 : Int))),w1,w2,w4,z0,z0,z0,z0,z0,z0,z0,z0,z0,z0,z0,z0,z0]),bt,bf,bf,bf,bf,n0l,bf,n0l,zI,zI,zI,(D.list 1 (some 1) [(D.v (.int .i64 (-1 : Int))),(D.v (.int .u8 (5 : Int))),w2,w5,w29,w32,z0,z0,z0,z0,z0,z0,z0,z0,z0,z0,z0,z0,(D.list 1 (some 1) [(D.v (.int .u8 (5 : Int))),w2,w5,w29,w32,z0,z0,z0,z0,z0,z0,z0,z0,z0,z0,z0,z0]),n0l]),zI,(D.v (.int .i64 (3 : Int))),(D.v (.int .i64 (3 : Int)))]),(D.agg [bf,bt,(D.list 2 (some 2) [(D.v (.int .u8 (3 : Int))),w1,w2,w3,z0,z0,z0,z0,z0,z0,z0,z0,z0,z0,z0,z0,z0,n0l,(D.v (.int .u8 (5 : Int))),w2,w5,w29,w32,z0,z0,z0,z0,z0,z0,z0,z0,z0,z0,z0,z0,n0l]),bt,(D.list 1 (some 1) [(D.v (.int .u8 (3 : Int))),w1,w2,w3,z0,z0,z0,z0,z0,z0,z0,z0,z0,z0,z0,z0,z0,(D.v (.int .u8 (3 : Int))),w1,w2,w4,z0,z0,z0,z0,z0,z0,z0,z0,z0,z0,z0,z0,z0]),(D.v (.int .i64 (-1 : Int))),(D.v (.int .i64 (-1 : Int))),(D.v (.int .i64 (-1 : Int)))])]
def Zlp : D := (D.tup [(D.agg [(D.v (.int .i64 (2 : Int))),(D.v (.int .i64 (1 : Int))),(D.v (.int .i64 (9 : Int))),(D.v (.int .i64 (3 : Int))),bt,(D.v (.int .u8 (0 : Int))),(D.list 1 (some 1) [(D.v (.int .u8 (3 : Int))),w1,w2,w4,z0,z0,z0,z0,z0,z0,z0,z0,z0,z0,z0,z0,z0]),bt,bf,bf,bf,bt,(D.list 2 (some 2) [(D.v (.int .u8 (3 : Int))),w1,w2,w3,z0,z0,z0,z0,z0,z0,z0,z0,z0,z0,z0,z0,z0,n0l,(D.v (.int .u8 (5 : Int))),w2,w5,w29,w32,z0,z0,z0,z0,z0,z0,z0,z0,z0,z0,z0,z0,n0l]),bt,(D.list 1 (some 1) [(D.v (.int .u8 (3 : Int))),w1,w2,w3,z0,z0,z0,z0,z0,z0,z0,z0,z0,z0,z0,z0,z0,(D.v (.int .u8 (3 : Int))),w1,w2,w4,z0,z0,z0,z0,z0,z0,z0,z0,z0,z0,z0,z0,z0]),(D.v (.int .i64 (-1 : Int))),(D.v (.int .i64 (-1 : Int))),(D.v (.int .i64 (-1 : Int))),(D.list 3 (some 3) [(D.v (.int .i64 (-1 : Int))),(D.v (.int .u8 (5 : Int))),w2,w5,w29,w32,z0,z0,z0,z0,z0,z0,z0,z0,z0,z0,z0,z0,(D.list 1 (some 1) [(D.v (.int .u8 (5 : Int))),w2,w5,w29,w32,z0,z0,z0,z0,z0,z0,z0,z0,z0,z0,z0,z0]),n0l,zI,(D.v (.int .u8 (3 : Int))),w1,w2,w3,z0,z0,z0,z0,z0,z0,z0,z0,z0,z0,z0,z0,z0,(D.list 1 (some 1) [(D.v (.int .u8 (3 : Int))),w1,w2,w3,z0,z0,z0,z0,z0,z0,z0,z0,z0,z0,z0,z0,z0]),n0l,zI,(D.v (.int .u8 (5 : Int))),w2,w5,w29,w32,z0,z0,z0,z0,z0,z0,z0,z0,z0,z0,z0,z0,(D.list 1 (some 1) [(D.v (.int .u8 (5 : Int))),w2,w5,w29,w32,z0,z0,z0,z0,z0,z0,z0,z0,z0,z0,z0,z0]),n0l]),zI,(D.v (.int .i64 (3 : Int))),(D.v (.int .i64 (3 : Int)))]),zI])
def Zlq : List D := [(D.agg [(D.v (.int .i64 (2 : Int))),(D.v (.int .i64 (1 : Int))),(D.v (.int .i64 (9 : Int))),(D.v (.int .i64 (3 : Int))),bf,(D.v (.int .u8 (0 : Int))),(D.list 1 (some 1) [(D.v (.int .u8 (3 : Int))),w1,w2,w4,z0,z0,z0,z0,z0,z0,z0,z0,z0,z0,z0,z0,z0]),bt,bf,bf,bf,bt,(D.list 2 (some 2) [(D.v (.int .u8 (3 : Int))),w1,w2,w3,z0,z0,z0,z0,z0,z0,z0,z0,z0,z0,z0,z0,z0,n0l,(D.v (.int .u8 (5 : Int))),w2,w5,w29,w32,z0,z0,z0,z0,z0,z0,z0,z0,z0,z0,z0,z0,n0l]),bt,(D.list 1 (some 1) [(D.v (.int .u8 (3 : Int))),w1,w2,w3,z0,z0,z0,z0,z0,z0,z0,z0,z0,z0,z0,z0,z0,(D.v (.int .u8 (3 : Int))),w1,w2,w4,z0,z0,z0,z0,z0,z0,z0,z0,z0,z0,z0,z0,z0]),(D.v (.int .i64 (-1 : Int))),(D.v (.int .i64 (-1 : Int))),(D.v (.int .i64 (-1 : Int))),(D.list 3 none [(D.v (.int .i64 (-1 : Int))),(D.v (.int .u8 (5 : Int))),w2,w5,w29,w32,z0,z0,z0,z0,z0,z0,z0,z0,z0,z0,z0,z0,(D.list 1 (some 1) [(D.v (.int .u8 (5 : Int))),w2,w5,w29,w32,z0,z0,z0,z0,z0,z0,z0,z0,z0,z0,z0,z0]),n0l,zI,(D.v (.int .u8 (3 : Int))),w1,w2,w3,z0,z0,z0,z0,z0,z0,z0,z0,z0,z0,z0,z0,z0,(D.list 1 (some 1) [(D.v (.int .u8 (3 : Int))),w1,w2,w4,z0,z0,z0,z0,z0,z0,z0,z0,z0,z0,z0,z0,z0]),n0l,zI,(D.v (.int .u8 (5 : Int))),w2,w5,w29,w32,z0,z0,z0,z0,z0,z0,z0,z0,z0,z0,z0,z0,(D.list 1 (some 1) [(D.v (.int .u8 (5 : Int))),w2,w5,w29,w32,z0,z0,z0,z0,z0,z0,z0,z0,z0,z0,z0,z0]),n0l]),zI,(D.v (.int .i64 (2 : Int))),(D.v (.int .i64 (2 : Int)))]),(D.agg [bf,bt,(D.list 1 (some 1) [(D.v (.int .u8 (3 : Int))),w1,w2,w4,z0,z0,z0,z0,z0,z0,z0,z0,z0,z0,z0,z0,z0,n0l]),bf,n0l,(D.v (.int .i64 (-1 : Int))),(D.v (.int .i64 (-1 : Int))),(D.v (.int .i64 (-1 : Int)))])]
def Zlr : D := (D.tup [(D.agg [(D.v (.int .i64 (2 : Int))),(D.v (.int .i64 (2 : Int))),(D.v (.int .i64 (9 : Int))),(D.v (.int .i64 (4 : Int))),bf,(D.v (.int .u8 (0 : Int))),(D.list 1 (some 1) [(D.v (.int .u8 (3 : Int))),w1,w2,w4,z0,z0,z0,z0,z0,z0,z0,z0,z0,z0,z0,z0,z0]),bt,bf,bf,bf,bt,(D.list 1 (some 1) [(D.v (.int .u8 (3 : Int))),w1,w2,w4,z0,z0,z0,z0,z0,z0,z0,z0,z0,z0,z0,z0,z0,n0l]),bf,n0l,(D.v (.int .i64 (-1 : Int))),(D.v (.int .i64 (-1 : Int))),(D.v (.int .i64 (-1 : Int))),(D.list 3 (some 3) [(D.v (.int .i64 (-1 : Int))),(D.v (.int .u8 (5 : Int))),w2,w5,w29,w32,z0,z0,z0,z0,z0,z0,z0,z0,z0,z0,z0,z0,(D.list 1 (some 1) [(D.v (.int .u8 (5 : Int))),w2,w5,w29,w32,z0,z0,z0,z0,z0,z0,z0,z0,z0,z0,z0,z0]),n0l,zI,(D.v (.int .u8 (3 : Int))),w1,w2,w3,z0,z0,z0,z0,z0,z0,z0,z0,z0,z0,z0,z0,z0,(D.list 1 (some 1) [(D.v (.int .u8 (3 : Int))),w1,w2,w4,z0,z0,z0,z0,z0,z0,z0,z0,z0,z0,z0,z0,z0]),n0l,(D.v (.int .i64 (1 : Int))),(D.v (.int .u8 (3 : Int))),w1,w2,w4,z0,z0,z0,z0,z0,z0,z0,z0,z0,z0,z0,z0,z0,(D.list 1 (some 1) [(D.v (.int .u8 (3 : Int))),w1,w2,w4,z0,z0,z0,z0,z0,z0,z0,z0,z0,z0,z0,z0,z0]),n0l]),zI,(D.v (.int .i64 (2 : Int))),(D.v (.int .i64 (2 : Int)))]),zI])
def Zls : List D := [(D.agg [(D.v (.int .i64 (2 : Int))),(D.v (.int .i64 (1 : Int))),(D.v (.int .i64 (9 : Int))),(D.v (.int .i64 (3 : Int))),bt,(D.v (.int .u8 (0 : Int))),(D.list 1 (some 1) [(D.v (.int .u8 (3 : Int))),w1,w2,w4,z0,z0,z0,z0,z0,z0,z0,z0,z0,z0,z0,z0,z0]),bt,bf,bf,bf,bt,(D.list 2 (some 2) [(D.v (.int .u8 (3 : Int))),w1,w2,w3,z0,z0,z0,z0,z0,z0,z0,z0,z0,z0,z0,z0,z0,n0l,(D.v (.int .u8 (5 : Int))),w2,w5,w29,w32,z0,z0,z0,z0,z0,z0,z0,z0,z0,z0,z0,z0,n0l]),bt,(D.list 1 (some 1) [(D.v (.int .u8 (3 : Int))),w1,w2,w3,z0,z0,z0,z0,z0,z0,z0,z0,z0,z0,z0,z0,z0,(D.v (.int .u8 (3 : Int))),w1,w2,w4,z0,z0,z0,z0,z0,z0,z0,z0,z0,z0,z0,z0,z0]),(D.v (.int .i64 (-1 : Int))),(D.v (.int .i64 (-1 : Int))),(D.v (.int .i64 (-1 : Int))),(D.list 3 (some 3) [(D.v (.int .i64 (-1 : Int))),(D.v (.int .u8 (5 : Int))),w2,w5,w29,w32,z0,z0,z0,z0,z0,z0,z0,z0,z0,z0,z0,z0,(D.list 1 (some 1) [(D.v (.int .u8 (5 : Int))),w2,w5,w29,w32,z0,z0,z0,z0,z0,z0,z0,z0,z0,z0,z0,z0]),n0l,zI,(D.v (.int .u8 (3 : Int))),w1,w2,w3,z0,z0,z0,z0,z0,z0,z0,z0,z0,z0,z0,z0,z0,(D.list 1 (some 1) [(D.v (.int .u8 (3 : Int))),w1,w2,w3,z0,z0,z0,z0,z0,z0,z0,z0,z0,z0,z0,z0,z0]),n0l,zI,(D.v (.int .u8 (5 : Int))),w2,w5,w29,w32,z0,z0,z0,z0,z0,z0,z0,z0,z0,z0,z0,z0,(D.list 1 (some 1) [(D.v (.int .u8 (5 : Int))),w2,w5,w29,w32,z0,z0,z0,z0,z0,z0,z0,z0,z0,z0,z0,z0]),n0l]),zI,(D.v (.int .i64 (3 : Int))),(D.v (.int .i64 (3 : Int)))]),(D.agg [bf,bt,(D.list 1 (some 1) [(D.v (.int .u8 (3 : Int))),w1,w2,w4,z0,z0,z0,z0,z0,z0,z0,z0,z0,z0,z0,z0,z0,n0l]),bf,n0l,(D.v (.int .i64 (-1 : Int))),(D.v (.int .i64 (-1 : Int))),(D.v (.int .i64 (-1 : Int)))])]
def Zlt : D := (D.tup [(D.agg [zI,zI,zI,zI,bf,(D.v (.int .u8 (0 : Int))),n0l,bf,bf,bf,bf,bf,n0l,bf,n0l,zI,zI,zI,n0l,zI,zI,zI]),(D.v (.int .i64 (21 : Int)))])
def Zlu : List D := [(D.agg [(D.v (.int .i64 (2 : Int))),zI,(D.v (.int .i64 (3 : Int))),(D.v (.int .i64 (1 : Int))),bf,(D.v (.int .u8 (0 : Int))),(D.list 1 (some 1) [(D.v (.int .u8 (3 : Int))),w1,w2,w4,z0,z0,z0,z0,z0,z0,z0,z0,z0,z0,z0,z0,z0]),bt,bf,bf,bf,bf,n0l,bf,n0l,zI,zI,zI,(D.list 1 (some 1) [(D.v (.int .i64 (-1 : Int))),(D.v (.int .u8 (5 : Int))),w2,w5,w29,w32,z0,z0,z0,z0,z0,z0,z0,z0,z0,z0,z0,z0,(D.list 1 (some 1) [(D.v (.int .u8 (5 : Int))),w2,w5,w29,w32,z0,z0,z0,z0,z0,z0,z0,z0,z0,z0,z0,z0]),n0l]),zI,(D.v (.int .i64 (3 : Int))),(D.v (.int .i64 (3 : Int)))]),(D.agg [bf,bt,(D.list 2 (some 2) [(D.v (.int .u8 (3 : Int))),w1,w2,w3,z0,z0,z0,z0,z0,z0,z0,z0,z0,z0,z0,z0,z0,n0l,(D.v (.int .u8 (5 : Int))),w2,w5,w29,w32,z0,z0,z0,z0,z0,z0,z0,z0,z0,z0,z0,z0,n0l]),bt,(D.list 1 (some 1) [(D.v (.int .u8 (3 : Int))),w1,w2,w3,z0,z0,z0,z0,z0,z0,z0,z0,z0,z0,z0,z0,z0,(D.v (.int .u8 (3 : Int))),w1,w2,w4,z0,z0,z0,z0,z0,z0,z0,z0,z0,z0,z0,z0,z0]),(D.v (.int .i64 (-1 : Int))),(D.v (.int .i64 (-1 : Int))),(D.v (.int .i64 (-1 : Int)))])]
def Zlv : D := (D.tup [(D.agg [(D.v (.int .i64 (2 : Int))),(D.v (.int .i64 (1 : Int))),(D.v (.int .i64 (3 : Int))),(D.v (.int .i64 (3 : Int))),bt,(D.v (.int .u8 (0 : Int))),(D.list 1 (some 1) [(D.v (.int .u8 (3 : Int))),w1,w2,w4,z0,z0,z0,z0,z0,z0,z0,z0,z0,z0,z0,z0,z0]),bt,bf,bf,bf,bt,(D.list 2 (some 2) [(D.v (.int .u8 (3 : Int))),w1,w2,w3,z0,z0,z0,z0,z0,z0,z0,z0,z0,z0,z0,z0,z0,n0l,(D.v (.int .u8 (5 : Int))),w2,w5,w29,w32,z0,z0,z0,z0,z0,z0,z0,z0,z0,z0,z0,z0,n0l]),bt,(D.list 1 (some 1) [(D.v (.int .u8 (3 : Int))),w1,w2,w3,z0,z0,z0,z0,z0,z0,z0,z0,z0,z0,z0,z0,z0,(D.v (.int .u8 (3 : Int))),w1,w2,w4,z0,z0,z0,z0,z0,z0,z0,z0,z0,z0,z0,z0,z0]),(D.v (.int .i64 (-1 : Int))),(D.v (.int .i64 (-1 : Int))),(D.v (.int .i64 (-1 : Int))),(D.list 3 (some 3) [(D.v (.int .i64 (-1 : Int))),(D.v (.int .u8 (5 : Int))),w2,w5,w29,w32,z0,z0,z0,z0,z0,z0,z0,z0,z0,z0,z0,z0,(D.list 1 (some 1) [(D.v (.int .u8 (5 : Int))),w2,w5,w29,w32,z0,z0,z0,z0,z0,z0,z0,z0,z0,z0,z0,z0]),n0l,zI,(D.v (.int .u8 (3 : Int))),w1,w2,w3,z0,z0,z0,z0,z0,z0,z0,z0,z0,z0,z0,z0,z0,(D.list 1 (some 1) [(D.v (.int .u8 (3 : Int))),w1,w2,w3,z0,z0,z0,z0,z0,z0,z0,z0,z0,z0,z0,z0,z0]),n0l,zI,(D.v (.int .u8 (5 : Int))),w2,w5,w29,w32,z0,z0,z0,z0,z0,z0,z0,z0,z0,z0,z0,z0,(D.list 1 (some 1) [(D.v (.int .u8 (5 : Int))),w2,w5,w29,w32,z0,z0,z0,z0,z0,z0,z0,z0,z0,z0,z0,z0]),n0l]),zI,(D.v (.int .i64 (3 : Int))),(D.v (.int .i64 (3 : Int)))]),zI])
def Zlw : List D := [(D.agg [(D.v (.int .i64 (2 : Int))),(D.v (.int .i64 (1 : Int))),(D.v (.int .i64 (3 : Int))),(D.v (.int .i64 (3 : Int))),bf,(D.v (.int .u8 (0 : Int))),(D.list 1 (some 1) [(D.v (.int .u8 (3 : Int))),w1,w2,w4,z0,z0,z0,z0,z0,z0,z0,z0,z0,z0,z0,z0,z0]),bt,bf,bf,bf,bt,(D.list 2 (some 2) [(D.v (.int .u8 (3 : Int))),w1,w2,w3,z0,z0,z0,z0,z0,z0,z0,z0,z0,z0,z0,z0,z0,n0l,(D.v (.int .u8 (5 : Int))),w2,w5,w29,w32,z0,z0,z0,z0,z0,z0,z0,z0,z0,z0,z0,z0,n0l]),bt,(D.list 1 (some 1) [(D.v (.int .u8 (3 : Int))),w1,w2,w3,z0,z0,z0,z0,z0,z0,z0,z0,z0,z0,z0,z0,z0,(D.v (.int .u8 (3 : Int))),w1,w2,w4,z0,z0,z0,z0,z0,z0,z0,z0,z0,z0,z0,z0,z0]),(D.v (.int .i64 (-1 : Int))),(D.v (.int .i64 (-1 : Int))),(D.v (.int .i64 (-1 : Int))),(D.list 3 none [(D.v (.int .i64 (-1 : Int))),(D.v (.int .u8 (5 : Int))),w2,w5,w29,w32,z0,z0,z0,z0,z0,z0,z0,z0,z0,z0,z0,z0,(D.list 1 (some 1) [(D.v (.int .u8 (5 : Int))),w2,w5,w29,w32,z0,z0,z0,z0,z0,z0,z0,z0,z0,z0,z0,z0]),n0l,zI,(D.v (.int .u8 (3 : Int))),w1,w2,w3,z0,z0,z0,z0,z0,z0,z0,z0,z0,z0,z0,z0,z0,(D.list 1 (some 1) [(D.v (.int .u8 (3 : Int))),w1,w2,w4,z0,z0,z0,z0,z0,z0,z0,z0,z0,z0,z0,z0,z0]),n0l,zI,(D.v (.int .u8 (5 : Int))),w2,w5,w29,w32,z0,z0,z0,z0,z0,z0,z0,z0,z0,z0,z0,z0,(D.list 1 (some 1) [(D.v (.int .u8 (5 : Int))),w2,w5,w29,w32,z0,z0,z0,z0,z0,z0,z0,z0,z0,z0,z0,z0]),n0l]),zI,(D.v (.int .i64 (2 : Int))),(D.v (.int .i64 (2 : Int)))]),(D.agg [bf,bt,(D.list 1 (some 1) [(D.v (.int .u8 (3 : Int))),w1,w2,w4,z0,z0,z0,z0,z0,z0,z0,z0,z0,z0,z0,z0,z0,n0l]),bf,n0l,(D.v (.int .i64 (-1 : Int))),(D.v (.int .i64 (-1 : Int))),(D.v (.int .i64 (-1 : Int)))])]
def Zlx : D := (D.tup [(D.agg [zI,zI,zI,zI,bf,(D.v (.int .u8 (0 : Int))),n0l,bf,bf,bf,bf,bf,n0l,bf,n0l,zI,zI,zI,n0l,zI,zI,zI]),(D.v (.int .i64 (4 : Int)))])
def Zly : List D := [(D.agg [(D.v (.int .i64 (2 : Int))),zI,(D.v (.int .i64 (4 : Int))),(D.v (.int .i64 (1 : Int))),bf,(D.v (.int .u8 (0 : Int))),(D.list 1 (some 1) [(D.v (.int .u8 (3 : Int))),w1,w2,w4,z0,z0,z0,z0,z0,z0,z0,z0,z0,z0,z0,z0,z0]),bt,bf,bf,bf,bf,n0l,bf,n0l,zI,zI,zI,(D.list 1 (some 1) [(D.v (.int .i64 (-1 : Int))),(D.v (.int .u8 (5 : Int))),w2,w5,w29,w32,z0,z0,z0,z0,z0,z0,z0,z0,z0,z0,z0,z0,(D.list 1 (some 1) [(D.v (.int .u8 (5 : Int))),w2,w5,w29,w32,z0,z0,z0,z0,z0,z0,z0,z0,z0,z0,z0,z0]),n0l]),zI,(D.v (.int .i64 (3 : Int))),(D.v (.int .i64 (3 : Int)))]),(D.agg [bf,bt,(D.list 2 (some 2) [(D.v (.int .u8 (3 : Int))),w1,w2,w3,z0,z0,z0,z0,z0,z0,z0,z0,z0,z0,z0,z0,z0,n0l,(D.v (.int .u8 (5 : Int))),w2,w5,w29,w32,z0,z0,z0,z0,z0,z0,z0,z0,z0,z0,z0,z0,n0l]),bt,(D.list 1 (some 1) [(D.v (.int .u8 (3 : Int))),w1,w2,w3,z0,z0,z0,z0,z0,z0,z0,z0,z0,z0,z0,z0,z0,(D.v (.int .u8 (3 : Int))),w1,w2,w4,z0,z0,z0,z0,z0,z0,z0,z0,z0,z0,z0,z0,z0]),(D.v (.int .i64 (-1 : Int))),(D.v (.int .i64 (-1 : Int))),(D.v (.int .i64 (-1 : Int)))])]
def Zlz : D := (D.tup [(D.agg [(D.v (.int .i64 (2 : Int))),(D.v (.int .i64 (1 : Int))),(D.v (.int .i64 (4 : Int))),(D.v (.int .i64 (3 : Int))),bt,(D.v (.int .u8 (0 : Int))),(D.list 1 (some 1) [(D.v (.int .u8 (3 : Int))),w1,w2,w4,z0,z0,z0,z0,z0,z0,z0,z0,z0,z0,z0,z0,z0]),bt,bf,bf,bf,bt,(D.list 2 (some 2) [(D.v (.int .u8 (3 : Int))),w1,w2,w3,z0,z0,z0,z0,z0,z0,z0,z0,z0,z0,z0,z0,z0,n0l,(D.v (.int .u8 (5 : Int))),w2,w5,w29,w32,z0,z0,z0,z0,z0,z0,z0,z0,z0,z0,z0,z0,n0l]),bt,(D.list 1 (some 1) [(D.v (.int .u8 (3 : Int))),w1,w2,w3,z0,z0,z0,z0,z0,z0,z0,z0,z0,z0,z0,z0,z0,(D.v (.int .u8 (3 : Int))),w1,w2,w4,z0,z0,z0,z0,z0,z0,z0,z0,z0,z0,z0,z0,z0]),(D.v (.int .i64 (-1 : Int))),(D.v (.int .i64 (-1 : Int))),(D.v (.int .i64 (-1 : Int))),(D.list 3 (some 3) [(D.v (.int .i64 (-1 : Int))),(D.v (.int .u8 (5 : Int))),w2,w5,w29,w32,z0,z0,z0,z0,z0,z0,z0,z0,z0,z0,z0,z0,(D.list 1 (some 1) [(D.v (.int .u8 (5 : Int))),w2,w5,w29,w32,z0,z0,z0,z0,z0,z0,z0,z0,z0,z0,z0,z0]),n0l,zI,(D.v (.int .u8 (3 : Int))),w1,w2,w3,z0,z0,z0,z0,z0,z0,z0,z0,z0,z0,z0,z0,z0,(D.list 1 (some 1) [(D.v (.int .u8 (3 : Int))),w1,w2,w3,z0,z0,z0,z0,z0,z0,z0,z0,z0,z0,z0,z0,z0]),n0l,zI,(D.v (.int .u8 (5 : Int))),w2,w5,w29,w32,z0,z0,z0,z0,z0,z0,z0,z0,z0,z0,z0,z0,(D.list 1 (some 1) [(D.v (.int .u8 (5 : Int))),w2,w5,w29,w32,z0,z0,z0,z0,z0,z0,z0,z0,z0,z0,z0,z0]),n0l]),zI,(D.v (.int .i64 (3 : Int))),(D.v (.int .i64 (3 : Int)))]),zI])
def Zm0 : List D := [(D.agg [(D.v (.int .i64 (2 : Int))),(D.v (.int .i64 (1 : Int))),(D.v (.int .i64 (4 : Int))),(D.v (.int .i64 (3 : Int))),bf,(D.v (.int .u8 (0 : Int))),(D.list 1 (some 1) [(D.v (.int .u8 (3 : Int))),w1,w2,w4,z0,z0,z0,z0,z0,z0,z0,z0,z0,z0,z0,z0,z0]),bt,bf,bf,bf,bt,(D.list 2 (some 2) [(D.v (.int .u8 (3 : Int))),w1,w2,w3,z0,z0,z0,z0,z0,z0,z0,z0,z0,z0,z0,z0,z0,n0l,(D.v (.int .u8 (5 : Int))),w2,w5,w29,w32,z0,z0,z0,z0,z0,z0,z0,z0,z0,z0,z0,z0,n0l]),bt,(D.list 1 (some 1) [(D.v (.int .u8 (3 : Int))),w1,w2,w3,z0,z0,z0,z0,z0,z0,z0,z0,z0,z0,z0,z0,z0,(D.v (.int .u8 (3 : Int))),w1,w2,w4,z0,z0,z0,z0,z0,z0,z0,z0,z0,z0,z0,z0,z0]),(D.v (.int .i64 (-1 : Int))),(D.v (.int .i64 (-1 : Int))),(D.v (.int .i64 (-1 : Int))),(D.list 3 none [(D.v (.int .i64 (-1 : Int))),(D.v (.int .u8 (5 : Int))),w2,w5,w29,w32,z0,z0,z0,z0,z0,z0,z0,z0,z0,z0,z0,z0,(D.list 1 (some 1) [(D.v (.int .u8 (5 : Int))),w2,w5,w29,w32,z0,z0,z0,z0,z0,z0,z0,z0,z0,z0,z0,z0]),n0l,zI,(D.v (.int .u8 (3 : Int))),w1,w2,w3,z0,z0,z0,z0,z0,z0,z0,z0,z0,z0,z0,z0,z0,(D.list 1 (some 1) [(D.v (.int .u8 (3 : Int))),w1,w2,w4,z0,z0,z0,z0,z0,z0,z0,z0,z0,z0,z0,z0,z0]),n0l,zI,(D.v (.int .u8 (5 : Int))),w2,w5,w29,w32,z0,z0,z0,z0,z0,z0,z0,z0,z0,z0,z0,z0,(D.list 1 (some 1) [(D.v (.int .u8 (5 : Int))),w2,w5,w29,w32,z0,z0,z0,z0,z0,z0,z0,z0,z0,z0,z0,z0]),n0l]),zI,(D.v (.int .i64 (2 : Int))),(D.v (.int .i64 (2 : Int)))]),(D.agg [bf,bt,(D.list 1 (some 1) [(D.v (.int .u8 (3 : Int))),w1,w2,w4,z0,z0,z0,z0,z0,z0,z0,z0,z0,z0,z0,z0,z0,n0l]),bf,n0l,(D.v (.int .i64 (-1 : Int))),(D.v (.int .i64 (-1 : Int))),(D.v (.int .i64 (-1 : Int)))])]
def Zm1 : D := (D.tup [(D.agg [(D.v (.int .i64 (2 : Int))),(D.v (.int .i64 (2 : Int))),(D.v (.int .i64 (4 : Int))),(D.v (.int .i64 (4 : Int))),bf,(D.v (.int .u8 (0 : Int))),(D.list 1 (some 1) [(D.v (.int .u8 (3 : Int))),w1,w2,w4,z0,z0,z0,z0,z0,z0,z0,z0,z0,z0,z0,z0,z0]),bt,bf,bf,bf,bt,(D.list 1 (some 1) [(D.v (.int .u8 (3 : Int))),w1,w2,w4,z0,z0,z0,z0,z0,z0,z0,z0,z0,z0,z0,z0,z0,n0l]),bf,n0l,(D.v (.int .i64 (-1 : Int))),(D.v (.int .i64 (-1 : Int))),(D.v (.int .i64 (-1 : Int))),(D.list 3 (some 3) [(D.v (.int .i64 (-1 : Int))),(D.v (.int .u8 (5 : Int))),w2,w5,w29,w32,z0,z0,z0,z0,z0,z0,z0,z0,z0,z0,z0,z0,(D.list 1 (some 1) [(D.v (.int .u8 (5 : Int))),w2,w5,w29,w32,z0,z0,z0,z0,z0,z0,z0,z0,z0,z0,z0,z0]),n0l,zI,(D.v (.int .u8 (3 : Int))),w1,w2,w3,z0,z0,z0,z0,z0,z0,z0,z0,z0,z0,z0,z0,z0,(D.list 1 (some 1) [(D.v (.int .u8 (3 : Int))),w1,w2,w4,z0,z0,z0,z0,z0,z0,z0,z0,z0,z0,z0,z0,z0]),n0l,(D.v (.int .i64 (1 : Int))),(D.v (.int .u8 (3 : Int))),w1,w2,w4,z0,z0,z0,z0,z0,z0,z0,z0,z0,z0,z0,z0,z0,(D.list 1 (some 1) [(D.v (.int .u8 (3 : Int))),w1,w2,w4,z0,z0,z0,z0,z0,z0,z0,z0,z0,z0,z0,z0,z0]),n0l]),zI,(D.v (.int .i64 (2 : Int))),(D.v (.int .i64 (2 : Int)))]),zI])
def Zm2 : List D := [(D.agg [(D.v (.int .i64 (2 : Int))),zI,(D.v (.int .i64 (3 : Int))),(D.v (.int .i64 (1 : Int))),bf,(D.v (.int .u8 (0 : Int))),(D.list 1 (some 1) [(D.v (.int .u8 (3 : Int))),w1,w2,w4,z0,z0,z0,z0,z0,z0,z0,z0,z0,z0,z0,z0,z0]),bt,bt,bf,bf,bf,n0l,bf,n0l,zI,zI,zI,(D.list 1 (some 1) [(D.v (.int .i64 (-1 : Int))),(D.v (.int .u8 (5 : Int))),w2,w5,w29,w32,z0,z0,z0,z0,z0,z0,z0,z0,z0,z0,z0,z0,(D.list 1 (some 1) [(D.v (.int .u8 (5 : Int))),w2,w5,w29,w32,z0,z0,z0,z0,z0,z0,z0,z0,z0,z0,z0,z0]),n0l]),zI,zI,(D.v (.int .i64 (3 : Int)))]),(D.agg [bf,bt,(D.list 2 (some 2) [(D.v (.int .u8 (3 : Int))),w1,w2,w3,z0,z0,z0,z0,z0,z0,z0,z0,z0,z0,z0,z0,z0,n0l,(D.v (.int .u8 (5 : Int))),w2,w5,w29,w32,z0,z0,z0,z0,z0,z0,z0,z0,z0,z0,z0,z0,n0l]),bt,(D.list 1 (some 1) [(D.v (.int .u8 (3 : Int))),w1,w2,w3,z0,z0,z0,z0,z0,z0,z0,z0,z0,z0,z0,z0,z0,(D.v (.int .u8 (3 : Int))),w1,w2,w4,z0,z0,z0,z0,z0,z0,z0,z0,z0,z0,z0,z0,z0]),(D.v (.int .i64 (-1 : Int))),(D.v (.int .i64 (-1 : Int))),(D.v (.int .i64 (-1 : Int)))])]
def Zm3 : D := (D.tup [(D.agg [(D.v (.int .i64 (2 : Int))),(D.v (.int .i64 (1 : Int))),(D.v (.int .i64 (3 : Int))),(D.v (.int .i64 (3 : Int))),bt,(D.v (.int .u8 (0 : Int))),(D.list 1 (some 1) [(D.v (.int .u8 (3 : Int))),w1,w2,w4,z0,z0,z0,z0,z0,z0,z0,z0,z0,z0,z0,z0,z0]),bt,bt,bf,bf,bt,(D.list 2 (some 2) [(D.v (.int .u8 (3 : Int))),w1,w2,w3,z0,z0,z0,z0,z0,z0,z0,z0,z0,z0,z0,z0,z0,n0l,(D.v (.int .u8 (5 : Int))),w2,w5,w29,w32,z0,z0,z0,z0,z0,z0,z0,z0,z0,z0,z0,z0,n0l]),bt,(D.list 1 (some 1) [(D.v (.int .u8 (3 : Int))),w1,w2,w3,z0,z0,z0,z0,z0,z0,z0,z0,z0,z0,z0,z0,z0,(D.v (.int .u8 (3 : Int))),w1,w2,w4,z0,z0,z0,z0,z0,z0,z0,z0,z0,z0,z0,z0,z0]),(D.v (.int .i64 (-1 : Int))),(D.v (.int .i64 (-1 : Int))),(D.v (.int .i64 (-1 : Int))),(D.list 3 (some 3) [(D.v (.int .i64 (-1 : Int))),(D.v (.int .u8 (5 : Int))),w2,w5,w29,w32,z0,z0,z0,z0,z0,z0,z0,z0,z0,z0,z0,z0,(D.list 1 (some 1) [(D.v (.int .u8 (5 : Int))),w2,w5,w29,w32,z0,z0,z0,z0,z0,z0,z0,z0,z0,z0,z0,z0]),n0l,zI,(D.v (.int .u8 (3 : Int))),w1,w2,w3,z0,z0,z0,z0,z0,z0,z0,z0,z0,z0,z0,z0,z0,(D.list 1 (some 1) [(D.v (.int .u8 (3 : Int))),w1,w2,w3,z0,z0,z0,z0,z0,z0,z0,z0,z0,z0,z0,z0,z0]),n0l,zI,(D.v (.int .u8 (5 : Int))),w2,w5,w29,w32,z0,z0,z0,z0,z0,z0,z0,z0,z0,z0,z0,z0,(D.list 1 (some 1) [(D.v (.int .u8 (5 : Int))),w2,w5,w29,w32,z0,z0,z0,z0,z0,z0,z0,z0,z0,z0,z0,z0]),n0l]),zI,zI,(D.v (.int .i64 (3 : Int)))]),zI])
def Zm4 : List D := [(D.agg [(D.v (.int .i64 (2 : Int))),(D.v (.int .i64 (1 : Int))),(D.v (.int .i64 (3 : Int))),(D.v (.int .i64 (3 : Int))),bf,(D.v (.int .u8 (0 : Int))),(D.list 1 (some 1) [(D.v (.int .u8 (3 : Int))),w1,w2,w4,z0,z0,z0,z0,z0,z0,z0,z0,z0,z0,z0,z0,z0]),bt,bt,bf,bf,bt,(D.list 2 (some 2) [(D.v (.int .u8 (3 : Int))),w1,w2,w3,z0,z0,z0,z0,z0,z0,z0,z0,z0,z0,z0,z0,z0,n0l,(D.v (.int .u8 (5 : Int))),w2,w5,w29,w32,z0,z0,z0,z0,z0,z0,z0,z0,z0,z0,z0,z0,n0l]),bt,(D.list 1 (some 1) [(D.v (.int .u8 (3 : Int))),w1,w2,w3,z0,z0,z0,z0,z0,z0,z0,z0,z0,z0,z0,z0,z0,(D.v (.int .u8 (3 : Int))),w1,w2,w4,z0,z0,z0,z0,z0,z0,z0,z0,z0,z0,z0,z0,z0]),(D.v (.int .i64 (-1 : Int))),(D.v (.int .i64 (-1 : Int))),(D.v (.int .i64 (-1 : Int))),(D.list 2 (some 2) [(D.v (.int .i64 (-1 : Int))),(D.v (.int .u8 (5 : Int))),w2,w5,w29,w32,z0,z0,z0,z0,z0,z0,z0,z0,z0,z0,z0,z0,(D.list 1 (some 1) [(D.v (.int .u8 (5 : Int))),w2,w5,w29,w32,z0,z0,z0,z0,z0,z0,z0,z0,z0,z0,z0,z0]),n0l,zI,(D.v (.int .u8 (5 : Int))),w2,w5,w29,w32,z0,z0,z0,z0,z0,z0,z0,z0,z0,z0,z0,z0,(D.list 1 (some 1) [(D.v (.int .u8 (5 : Int))),w2,w5,w29,w32,z0,z0,z0,z0,z0,z0,z0,z0,z0,z0,z0,z0]),n0l]),zI,zI,(D.v (.int .i64 (2 : Int)))]),(D.agg [bf,bt,(D.list 1 (some 1) [(D.v (.int .u8 (3 : Int))),w1,w2,w4,z0,z0,z0,z0,z0,z0,z0,z0,z0,z0,z0,z0,z0,n0l]),bf,n0l,(D.v (.int .i64 (-1 : Int))),(D.v (.int .i64 (-1 : Int))),(D.v (.int .i64 (-1 : Int)))])]
def Zm5 : D := (D.tup [(D.agg [(D.v (.int .i64 (2 : Int))),(D.v (.int .i64 (2 : Int))),(D.v (.int .i64 (3 : Int))),(D.v (.int .i64 (3 : Int))),bf,(D.v (.int .u8 (0 : Int))),(D.list 1 (some 1) [(D.v (.int .u8 (3 : Int))),w1,w2,w4,z0,z0,z0,z0,z0,z0,z0,z0,z0,z0,z0,z0,z0]),bt,bt,bf,bf,bt,(D.list 1 (some 1) [(D.v (.int .u8 (3 : Int))),w1,w2,w4,z0,z0,z0,z0,z0,z0,z0,z0,z0,z0,z0,z0,z0,n0l]),bf,n0l,(D.v (.int .i64 (-1 : Int))),(D.v (.int .i64 (-1 : Int))),(D.v (.int .i64 (-1 : Int))),(D.list 3 (some 3) [(D.v (.int .i64 (-1 : Int))),(D.v (.int .u8 (5 : Int))),w2,w5,w29,w32,z0,z0,z0,z0,z0,z0,z0,z0,z0,z0,z0,z0,(D.list 1 (some 1) [(D.v (.int .u8 (5 : Int))),w2,w5,w29,w32,z0,z0,z0,z0,z0,z0,z0,z0,z0,z0,z0,z0]),n0l,zI,(D.v (.int .u8 (5 : Int))),w2,w5,w29,w32,z0,z0,z0,z0,z0,z0,z0,z0,z0,z0,z0,z0,(D.list 1 (some 1) [(D.v (.int .u8 (5 : Int))),w2,w5,w29,w32,z0,z0,z0,z0,z0,z0,z0,z0,z0,z0,z0,z0]),n0l,(D.v (.int .i64 (1 : Int))),(D.v (.int .u8 (3 : Int))),w1,w2,w4,z0,z0,z0,z0,z0,z0,z0,z0,z0,z0,z0,z0,z0,(D.list 1 (some 1) [(D.v (.int .u8 (3 : Int))),w1,w2,w4,z0,z0,z0,z0,z0,z0,z0,z0,z0,z0,z0,z0,z0]),n0l]),zI,zI,(D.v (.int .i64 (2 : Int)))]),zI])
def Zm6 : List D := [(D.agg [zI,zI,zI,zI,bf,(D.v (.int .u8 (0 : Int))),n0l,bf,bf,bf,bf,bf,n0l,bf,n0l,zI,zI,zI,n0l,zI,zI,zI]),(D.agg [bf,bf,n0l,bf,n0l,(D.v (.int .i64 (-1 : Int))),(D.v (.int .i64 (-1 : Int))),(D.v (.int .i64 (-1 : Int)))])]
def Zm7 : D := (D.tup [(D.agg [zI,zI,zI,zI,bf,(D.v (.int .u8 (0 : Int))),n0l,bf,bf,bf,bf,bf,n0l,bf,n0l,zI,zI,zI,n0l,zI,zI,zI]),(D.v (.int .i64 (2 : Int)))])
theorem Z10x : funE Tg Zl Zm 100000 60 Z1 Tryz.f18 Zlo = some Zlp := by kernel_rfl
theorem Z10y : funE Tg Zl Zm 100000 60 Z1 Tryz.f18 Zlq = some Zlr := by kernel_rfl
theorem Z10z : funE Tg Zl Zm 100000 60 Z1 Tryz.f18 Zls = some Zlt := by kernel_rfl
theorem Z110 : funE Tg Zl Zm 100000 60 Z1 Tryz.f18 Zlu = some Zlv := by kernel_rfl
theorem Z111 : funE Tg Zl Zm 100000 60 Z1 Tryz.f18 Zlw = some Zlx := by kernel_rfl
theorem Z112 : funE Tg Zl Zm 100000 60 Z1 Tryz.f18 Zly = some Zlz := by kernel_rfl
theorem Z113 : funE Tg Zl Zm 100000 60 Z1 Tryz.f18 Zm0 = some Zm1 := by kernel_rfl
theorem Z114 : funE Tg Zl Zm 100000 60 Z1 Tryz.f18 Zm2 = some Zm3 := by kernel_rfl
theorem Z115 : funE Tg Zl Zm 100000 60 Z1 Tryz.f18 Zm4 = some Zm5 := by kernel_rfl
theorem Z116 : funE Tg Zl Zm 100000 60 Z1 Tryz.f18 Zm6 = some Zm7 := by kernel_rfl
def Z54 (ds : List D) : Option D := if isT Zlo ds then some Zlp else (if isT Zlq ds then some Zlr else (if isT Zls ds then some Zlt else (if isT Zlu ds then some Zlv else (if isT Zlw ds then some Zlx else (if isT Zly ds then some Zlz else (if isT Zm0 ds then some Zm1 else (if isT Zm2 ds then some Zm3 else (if isT Zm4 ds then some Zm5 else (if isT Zm6 ds then some Zm7 else (none))))))))))
theorem td_ptrees_State_Step : ∀ ds d,Z54 ds = some d → DataSem Tg 18 ds d := by
 intro ds d h
 unfold Z54 at h
 split at h
 ·rename_i ha; obtain rfl := isT_eq ha; cases h; exact Zk Z10x
 split at h
 ·rename_i ha; obtain rfl := isT_eq ha; cases h; exact Zk Z10y
 split at h
 ·rename_i ha; obtain rfl := isT_eq ha; cases h; exact Zk Z10z
 split at h
 ·rename_i ha; obtain rfl := isT_eq ha; cases h; exact Zk Z110
 split at h
 ·rename_i ha; obtain rfl := isT_eq ha; cases h; exact Zk Z111
 split at h
 ·rename_i ha; obtain rfl := isT_eq ha; cases h; exact Zk Z112
 split at h
 ·rename_i ha; obtain rfl := isT_eq ha; cases h; exact Zk Z113
 split at h
 ·rename_i ha; obtain rfl := isT_eq ha; cases h; exact Zk Z114
 split at h
 ·rename_i ha; obtain rfl := isT_eq ha; cases h; exact Zk Z115
 split at h
 ·rename_i ha; obtain rfl := isT_eq ha; cases h; exact Zk Z116
 cases h
def Z29 : FnH := ⟨[(4,⟨(bm 3584 26),[(9,34)],none,none⟩)],[]⟩
theorem Z4c : Enters Tg 85 := ⟨Tryz.f85,Tryz.func85,by kernel_rfl,by kernel_rfl⟩
noncomputable def Zbk : Hints := ⟨[(66,Z30),(114,Zas)],[(85,Tryz.f85,Z29)],[303,305,306,308,253,1000032,1000060,2000026,2000040,2000062,2000034]⟩
theorem Zuu {m n : Nat} {ds : List D} {d : D} (h : funD Tg Zbk m n Z29 Tryz.f85 ds = some d) : DataSem Tg 85 ds d := Z0 (H := Zbk) (SpOk.cons td_records_Check (SpOk.cons td_oids_Any SpOk.nil)) mixed (InlOk.cons Tryz.func85 Z4c InlOk.nil) Tryz.func85 Z4c h
def Zm8 : List D := [(D.agg [bf,bt,(D.list 2 (some 2) [(D.v (.int .u8 (3 : Int))),w1,w2,w3,z0,z0,z0,z0,z0,z0,z0,z0,z0,z0,z0,z0,z0,n0l,(D.v (.int .u8 (5 : Int))),w2,w5,w29,w32,z0,z0,z0,z0,z0,z0,z0,z0,z0,z0,z0,z0,n0l]),bt,(D.list 1 (some 1) [(D.v (.int .u8 (3 : Int))),w1,w2,w3,z0,z0,z0,z0,z0,z0,z0,z0,z0,z0,z0,z0,z0,(D.v (.int .u8 (3 : Int))),w1,w2,w4,z0,z0,z0,z0,z0,z0,z0,z0,z0,z0,z0,z0,z0]),(D.v (.int .i64 (-1 : Int))),(D.v (.int .i64 (-1 : Int))),(D.v (.int .i64 (-1 : Int)))])]
def Zm9 : D := bf
theorem Z117 : funD Tg Zbk 100000 60 Z29 Tryz.f85 Zm8 = some Zm9 := by kernel_rfl
def Ze3 (ds : List D) : Option D := if isT Zm8 ds then some Zm9 else (none)
theorem td_records_AnyMapped : ∀ ds d,Ze3 ds = some d → DataSem Tg 85 ds d := by
 intro ds d h
 unfold Ze3 at h
 split at h
 ·rename_i ha; obtain rfl := isT_eq ha; cases h; exact Zuu Z117
 cases h
def Z2e : FnH := ⟨[],[]⟩
def Zk4 : FnH := ⟨[],[]⟩
def Zk5 : FnH := ⟨[],[]⟩
def Zch : FnH := ⟨[],[]⟩
def Zlf : FnH := ⟨[],[]⟩
def Zio : FnH := ⟨[],[]⟩
theorem Z6n : Enters Tg 89 := ⟨Tryz.f89,Tryz.func89,by kernel_rfl,by kernel_rfl⟩
theorem Zk6 : Enters Tg 110 := ⟨Tryz.f110,Tryz.func110,by kernel_rfl,by kernel_rfl⟩
theorem Zk7 : Enters Tg 55 := ⟨Tryz.f55,Tryz.func55,by kernel_rfl,by kernel_rfl⟩
theorem Zci : Enters Tg 109 := ⟨Tryz.f109,Tryz.func109,by kernel_rfl,by kernel_rfl⟩
theorem Zlg : Enters Tg 106 := ⟨Tryz.f106,Tryz.func106,by kernel_rfl,by kernel_rfl⟩
theorem Zip : Enters Tg 155 := ⟨Tryz.f155,Tryz.func155,by kernel_rfl,by kernel_rfl⟩
noncomputable def Zcj : Hints := ⟨[(66,Z30)],[(89,Tryz.f89,Z2e),(110,Tryz.f110,Zk4),(55,Tryz.f55,Zk5),(109,Tryz.f109,Zch),(106,Tryz.f106,Zlf),(155,Tryz.f155,Zio)],[303,305,306,308,253,1000032,1000060,2000026,2000040,2000062,2000034]⟩
theorem Zp2 {m n : Nat} {ds : List D} {d : D} (h : funD Tg Zcj m n Z2e Tryz.f89 ds = some d) : DataSem Tg 89 ds d := Z0 (H := Zcj) (SpOk.cons td_records_Check SpOk.nil) mixed (InlOk.cons Tryz.func89 Z6n (InlOk.cons Tryz.func110 Zk6 (InlOk.cons Tryz.func55 Zk7 (InlOk.cons Tryz.func109 Zci (InlOk.cons Tryz.func106 Zlg (InlOk.cons Tryz.func155 Zip InlOk.nil)))))) Tryz.func89 Z6n h
def Zu0 : List D := [(D.agg [zI,(D.v (.int .i64 (3 : Int))),(D.v (.int .i64 (3 : Int)))]),(D.agg [bf,bt,(D.list 2 (some 2) [(D.v (.int .u8 (3 : Int))),w1,w2,w3,z0,z0,z0,z0,z0,z0,z0,z0,z0,z0,z0,z0,z0,n0l,(D.v (.int .u8 (5 : Int))),w2,w5,w29,w32,z0,z0,z0,z0,z0,z0,z0,z0,z0,z0,z0,z0,n0l]),bt,(D.list 1 (some 1) [(D.v (.int .u8 (3 : Int))),w1,w2,w3,z0,z0,z0,z0,z0,z0,z0,z0,z0,z0,z0,z0,z0,(D.v (.int .u8 (3 : Int))),w1,w2,w4,z0,z0,z0,z0,z0,z0,z0,z0,z0,z0,z0,z0,z0]),(D.v (.int .i64 (-1 : Int))),(D.v (.int .i64 (-1 : Int))),(D.v (.int .i64 (-1 : Int)))])]
def Zu1 : D := (D.tup [(D.agg [zI,(D.v (.int .i64 (2 : Int))),(D.v (.int .i64 (2 : Int)))]),zI])
def Zu2 : List D := [(D.agg [zI,zI,(D.v (.int .i64 (3 : Int)))]),(D.agg [bf,bt,(D.list 2 (some 2) [(D.v (.int .u8 (3 : Int))),w1,w2,w3,z0,z0,z0,z0,z0,z0,z0,z0,z0,z0,z0,z0,z0,n0l,(D.v (.int .u8 (5 : Int))),w2,w5,w29,w32,z0,z0,z0,z0,z0,z0,z0,z0,z0,z0,z0,z0,n0l]),bt,(D.list 1 (some 1) [(D.v (.int .u8 (3 : Int))),w1,w2,w3,z0,z0,z0,z0,z0,z0,z0,z0,z0,z0,z0,z0,z0,(D.v (.int .u8 (3 : Int))),w1,w2,w4,z0,z0,z0,z0,z0,z0,z0,z0,z0,z0,z0,z0,z0]),(D.v (.int .i64 (-1 : Int))),(D.v (.int .i64 (-1 : Int))),(D.v (.int .i64 (-1 : Int)))])]
def Zu3 : D := (D.tup [(D.agg [zI,zI,(D.v (.int .i64 (2 : Int)))]),zI])
theorem Z16m : funD Tg Zcj 100000 60 Z2e Tryz.f89 Zu0 = some Zu1 := by kernel_rfl
theorem Z16n : funD Tg Zcj 100000 60 Z2e Tryz.f89 Zu2 = some Zu3 := by kernel_rfl
def Zpt (ds : List D) : Option D := if isT Zu0 ds then some Zu1 else (if isT Zu2 ds then some Zu3 else (none))
theorem td_counters_Next : ∀ ds d,Zpt ds = some d → DataSem Tg 89 ds d := by
 intro ds d h
 unfold Zpt at h
 split at h
 ·rename_i ha; obtain rfl := isT_eq ha; cases h; exact Zp2 Z16m
 split at h
 ·rename_i ha; obtain rfl := isT_eq ha; cases h; exact Zp2 Z16n
 cases h
def Z55 : FnH := ⟨[],[]⟩
def Zh0 : FnH := ⟨[(4,⟨(bm 28680 26),[(12,18)],none,none⟩)],[]⟩
def Zpu : FnH := ⟨[(3,⟨(bm 776 34),[(3,27)],none,none⟩)],[]⟩
def Z7j : FnH := ⟨[],[]⟩
def Ze4 : FnH := ⟨[],[]⟩
def Zh1 : FnH := ⟨[],[]⟩
theorem Z9z : Enters Tg 139 := ⟨Tryz.f139,Tryz.func139,by kernel_rfl,by kernel_rfl⟩
theorem Zh2 : Enters Tg 171 := ⟨Tryz.f171,Tryz.func171,by kernel_rfl,by kernel_rfl⟩
theorem Zpv : Enters Tg 202 := ⟨Tryz.f202,Tryz.func202,by kernel_rfl,by kernel_rfl⟩
theorem Z7k : Enters Tg 233 := ⟨Tryz.f233,Tryz.func233,by kernel_rfl,by kernel_rfl⟩
theorem Ze5 : Enters Tg 234 := ⟨Tryz.f234,Tryz.func234,by kernel_rfl,by kernel_rfl⟩
theorem Zh3 : Enters Tg 235 := ⟨Tryz.f235,Tryz.func235,by kernel_rfl,by kernel_rfl⟩
noncomputable def Zs7 : Hints := ⟨[(66,Z30),(114,Zas)],[(139,Tryz.f139,Z55),(171,Tryz.f171,Zh0),(202,Tryz.f202,Zpu),(233,Tryz.f233,Z7j),(234,Tryz.f234,Ze4),(235,Tryz.f235,Zh1)],[303,305,306,308,253,1000032,1000060,2000026,2000040,2000062,2000034]⟩
theorem Z14x {m n : Nat} {ds : List D} {d : D} (h : funD Tg Zs7 m n Z55 Tryz.f139 ds = some d) : DataSem Tg 139 ds d := Z0 (H := Zs7) (SpOk.cons td_records_Check (SpOk.cons td_oids_Any SpOk.nil)) mixed (InlOk.cons Tryz.func139 Z9z (InlOk.cons Tryz.func171 Zh2 (InlOk.cons Tryz.func202 Zpv (InlOk.cons Tryz.func233 Z7k (InlOk.cons Tryz.func234 Ze5 (InlOk.cons Tryz.func235 Zh3 InlOk.nil)))))) Tryz.func139 Z9z h
def Zzy : List D := [(D.agg [bf,bt,(D.list 2 (some 2) [(D.v (.int .u8 (3 : Int))),w1,w2,w3,z0,z0,z0,z0,z0,z0,z0,z0,z0,z0,z0,z0,z0,n0l,(D.v (.int .u8 (5 : Int))),w2,w5,w29,w32,z0,z0,z0,z0,z0,z0,z0,z0,z0,z0,z0,z0,n0l]),bt,(D.list 1 (some 1) [(D.v (.int .u8 (3 : Int))),w1,w2,w3,z0,z0,z0,z0,z0,z0,z0,z0,z0,z0,z0,z0,z0,(D.v (.int .u8 (3 : Int))),w1,w2,w4,z0,z0,z0,z0,z0,z0,z0,z0,z0,z0,z0,z0,z0]),(D.v (.int .i64 (-1 : Int))),(D.v (.int .i64 (-1 : Int))),(D.v (.int .i64 (-1 : Int)))])]
def Zzz : D := (D.tup [(D.list 0 none []),bt])
theorem Z1a5 : funD Tg Zs7 100000 60 Z55 Tryz.f139 Zzy = some Zzz := by kernel_rfl
def Zuv (ds : List D) : Option D := if isT Zzy ds then some Zzz else (none)
theorem td_records_Any : ∀ ds d,Zuv ds = some d → DataSem Tg 139 ds d := by
 intro ds d h
 unfold Zuv at h
 split at h
 ·rename_i ha; obtain rfl := isT_eq ha; cases h; exact Z14x Z1a5
 cases h
end Go.Ev