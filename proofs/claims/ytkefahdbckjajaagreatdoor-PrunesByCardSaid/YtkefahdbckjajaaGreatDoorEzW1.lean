/-
  The statements about prunings: childless nodes, and those that stay.
-/
import Derived.Test.YtkefahdbckjajaaGreatDoorEzU8
import Derived.Test.YtkefahdbckjajaaGreatDoorEzGc
set_option linter.unusedSimpArgs false
set_option linter.unusedVariables false
set_option maxRecDepth 100000
namespace Go.Ev
open Go

theorem Z1om {n : Nat} (h : n < 256) : IntKind.wrap .i64 (n : Int) = (n : Int) := Z7e (by omega) (by omega)
theorem dep8 (d : Nat) : IntKind.wrap .i64 (Int.tmod (d : Int) (8 : Int)) = ((d % 8 : Nat) : Int) := by
  rw [show (8 : Int) = ((8 : Nat) : Int) from rfl, Zyj]
  have := Nat.mod_lt d (show 0 < 8 by omega)
  exact Z7e (by omega) (by omega)
section
variable {l : List Cd}
theorem Tr.s (h : Tr l) : Shape (nds l) := h.t.valid.shape
theorem Tr.e (h : Tr l) : treeErr (nds l) = 0 := (Z1h0 h.b.ok.nds).2 h.t.valid
theorem Tr.dep (h : Tr l) : ∀ i, i < (nds l).length → Go.Ev.dep (nds l) i ≤ 64 := h.t.valid.dep
theorem plan8 (h : Tr l) (d : Nat) : planE (nds l) ((d % 8 : Nat) : Int) = 0 := by
  have := Nat.mod_lt d (show 0 < 8 by omega)
  exact Zrv h.e (by omega)
theorem pPrune (h : Tr l) (cp : Option Nat) (d : Nat) : Zr [.agg [.list l.length cp (cdsC l)], .v (.int .i64 ((d % 8 : Nat) : Int))] = some (delD (leftC l (stays (nds l) (d % 8)))) :=
  (Zxy h.b cp _).trans (by rw [plan8 h, if_neg (by decide), Int.toNat_natCast])
theorem Z1jo (h : Tr l) (cp : Option Nat) (d : Nat) {cs : List Int} (hcs : cs.length < 1000000000) (ac : Option Nat) : Zq [.agg [.list l.length cp (cdsC l)], .v (.int .i64 ((d % 8 : Nat) : Int)), .list cs.length ac (ints cs)] =
    some (.tup [.agg [.list (leftC l (stays (nds l) (d % 8))).length (some (leftC l (stays (nds l) (d % 8))).length) (cdsC (leftC l (stays (nds l) (d % 8))))], .v (.int .i64 ((l.length - rk (stays (nds l) (d % 8)) l.length : Nat) : Int)), .v (.int .i64 0)]) := by
  have hB := h.b.len
  obtain ⟨h1, _, h3⟩ := Z1b0 h.s (d % 8) cs (f := M + 1) (by unfold M; omega)
  refine (Z1az h.b cp _ hcs ac).trans ?_
  rw [plan8 h, if_neg (by decide), Int.toNat_natCast]
  unfold byD
  rw [h1, show (pby (nds l) (d % 8) (chN cs) (M + 1) tt 0).2 = l.length - rk (stays (nds l) (d % 8)) l.length by omega]
end
end Go.Ev
