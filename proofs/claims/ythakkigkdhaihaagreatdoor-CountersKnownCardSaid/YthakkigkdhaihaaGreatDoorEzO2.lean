/-
 Policies of the examples; sets by bits.
-/
import Derived.Test.YthakkigkdhaihaaGreatDoorEzO1
import Derived.Test.YthakkigkdhaihaaGreatDoorEzL0
set_option linter.unusedSimpArgs false
set_option linter.unusedVariables false
set_option maxRecDepth 100000
namespace Go.Ev
open Go
def anyO : Oid := ⟨5, [2, 5, 29, 32, 0, 0, 0, 0, 0, 0, 0, 0, 0, 0, 0, 0]⟩
def polK (k : Nat) : Oid := ⟨3, [1, 2, 3 + k, 0, 0, 0, 0, 0, 0, 0, 0, 0, 0, 0, 0, 0]⟩
def polO (k : Nat) : Oid := if k % 7 = 6 then anyO else polK (k % 7)
theorem Z1d8 (k : Nat) : ∃ j, j < 7 ∧ polO k = polO j := ⟨k % 7, Nat.mod_lt _ (by omega), by unfold polO; rw [Nat.mod_mod]⟩
theorem Zim (k : Nat) : (polO k).ok := by
 obtain ⟨j, hj, e⟩ := Z1d8 k
 rw [e]
 match j, hj with
 | 0, _ | 1, _ | 2, _ | 3, _ | 4, _ | 5, _ | 6, _ => exact ⟨by decide, by decide, by decide⟩
theorem Z145 (k : Nat) : (polO k).good = true := by
 obtain ⟨j, hj, e⟩ := Z1d8 k
 rw [e]
 match j, hj with
 | 0, _ | 1, _ | 2, _ | 3, _ | 4, _ | 5, _ | 6, _ => decide
theorem anyO_ok : anyO.ok := Zim 6
theorem anyO_good : anyO.good = true := Z145 6
theorem Zhf (a b : Nat) : Int.tmod (a : Int) (b : Int) = ((a % b : Nat) : Int) := by rw [Int.tmod_eq_emod_of_nonneg (by omega)]; rfl
theorem Z18g (a b : Nat) : Int.tdiv (a : Int) (b : Int) = ((a / b : Nat) : Int) := by rw [Int.tdiv_eq_ediv_of_nonneg (by omega)]; rfl
def qaC : List D := [(D.v (.int .u8 (1 : Int))), (D.v (.string (ByteArray.mk #[104, 116, 116, 112, 58, 47, 47, 97]))), (D.v (.bool false)), (D.v (.int .u32 (0 : Int))), (D.v (.string (ByteArray.mk #[]))), (D.list 0 (some 0) []), (D.v (.bool false)), (D.v (.int .u32 (0 : Int))), (D.v (.string (ByteArray.mk #[]))), (D.v (.int .u8 (0 : Int))), (D.v (.int .u32 (0 : Int))), (D.v (.int .u32 (0 : Int))), (D.v (.int .u32 (0 : Int))), (D.v (.int .u32 (0 : Int))), (D.v (.int .u32 (0 : Int))), (D.v (.int .u32 (0 : Int))), (D.v (.int .u32 (0 : Int))), (D.v (.int .u32 (0 : Int))), (D.v (.int .u32 (0 : Int))), (D.v (.int .u32 (0 : Int))), (D.v (.int .u32 (0 : Int))), (D.v (.int .u32 (0 : Int))), (D.v (.int .u32 (0 : Int))), (D.v (.int .u32 (0 : Int))), (D.v (.int .u32 (0 : Int))), (D.v (.int .u32 (0 : Int))), (D.list 0 (some 0) [])]
def qbC : List D := [(D.v (.int .u8 (2 : Int))), (D.v (.string (ByteArray.mk #[]))), (D.v (.bool false)), (D.v (.int .u32 (0 : Int))), (D.v (.string (ByteArray.mk #[]))), (D.list 0 (some 0) []), (D.v (.bool true)), (D.v (.int .u32 (12 : Int))), (D.v (.string (ByteArray.mk #[98]))), (D.v (.int .u8 (0 : Int))), (D.v (.int .u32 (0 : Int))), (D.v (.int .u32 (0 : Int))), (D.v (.int .u32 (0 : Int))), (D.v (.int .u32 (0 : Int))), (D.v (.int .u32 (0 : Int))), (D.v (.int .u32 (0 : Int))), (D.v (.int .u32 (0 : Int))), (D.v (.int .u32 (0 : Int))), (D.v (.int .u32 (0 : Int))), (D.v (.int .u32 (0 : Int))), (D.v (.int .u32 (0 : Int))), (D.v (.int .u32 (0 : Int))), (D.v (.int .u32 (0 : Int))), (D.v (.int .u32 (0 : Int))), (D.v (.int .u32 (0 : Int))), (D.v (.int .u32 (0 : Int))), (D.list 0 (some 0) [])]
def putFrom (o : Oid) : Bool → List Oid → List Oid
 | d, [] => if d then [] else [o]
 | d, x :: r => if (!(d || decide (x = o)) && decide (o.cmp x < 0)) then o :: x :: putFrom o true r else x :: putFrom o (d || decide (x = o)) r
def putO (l : List Oid) (o : Oid) : List Oid := putFrom o false l
theorem Zz6 {o : Oid} (ho : o.ok) : ∀ (l : List Oid) (d : Bool), (∀ x, x ∈ l → x.ok) → ∀ x, x ∈ putFrom o d l → x.ok
 | [], d, h, x, hx => by
  unfold putFrom at hx; split at hx
  ·cases hx
  ·simp at hx; subst hx; exact ho
 | y :: r, d, h, x, hx => by
  have hr : ∀ x, x ∈ r → x.ok := fun x hx => h x (by simp [hx])
  unfold putFrom at hx; split at hx
  ·rcases List.mem_cons.1 hx with rfl | hx
   ·exact ho
   ·rcases List.mem_cons.1 hx with rfl | hx
    ·exact h x (by simp)
    ·exact Zz6 ho r true hr x hx
  ·rcases List.mem_cons.1 hx with rfl | hx
   ·exact h x (by simp)
   ·exact Zz6 ho r _ hr x hx
theorem Z1gu {l : List Oid} {o : Oid} (h : ∀ x, x ∈ l → x.ok) (ho : o.ok) : ∀ x, x ∈ putO l o → x.ok := Zz6 ho l false h
theorem Zt3 (a b : List Oid) : oidsC (a ++ b) = oidsC a ++ oidsC b := by simp [oidsC]
theorem Z146 (o : Oid) : oidsC [o] = o.cells := by simp [oidsC]
theorem Zv3 (o : Oid) : ∀ (l : List Oid) (d : Bool), (putFrom o d l).length ≤ l.length + (if d then 0 else 1)
 | [], d => by cases d <;> simp [putFrom]
 | x :: r, d => by
  unfold putFrom; split
  ·rename_i h
   have := Zv3 o r true
   cases d with
   | false => simp at this ⊢; omega
   | true => simp at h
  ·have := Zv3 o r (d || decide (x = o))
   generalize decide (x = o) = b at this ⊢
   cases d <;> cases b <;> simp at this ⊢ <;> omega
abbrev Ini := List Oid × Option Nat
def iniStep (u i : Nat) (s : Ini) : Ini := if u / 2 ^ i % 2 = 1 then (putO s.1 (polO i), none) else s
def Zfk (u : Nat) : Nat → Nat → Ini → Ini
 | 0, _, s => s
 | k + 1, i, s => Zfk u k (i + 1) (iniStep u i s)
def setOf (u : Nat) : Ini := Zfk u 7 0 ([], some 0)
theorem ini_ok : ∀ (k i u : Nat) (s : Ini), (∀ x, x ∈ s.1 → x.ok) → ∀ x, x ∈ (Zfk u k i s).1 → x.ok
 | 0, i, u, s, h => h
 | k + 1, i, u, s, h => ini_ok k (i + 1) u _ (by
   unfold iniStep; split
   ·exact Z1gu h (Zim i)
   ·exact h)
theorem Z147 (u : Nat) : ∀ (k i : Nat) (s : Ini), k + i ≤ 7 → Zfk u k i s = Zfk (u % 128) k i s
 | 0, i, s, h => rfl
 | k + 1, i, s, h => by
  unfold Zfk
  have e : u % 128 / 2 ^ i % 2 = u / 2 ^ i % 2 := by
   have : i ≤ 6 := by omega
   match i, this with
   | 0, _ | 1, _ | 2, _ | 3, _ | 4, _ | 5, _ | 6, _ => simp only [Nat.reducePow]; omega
  have : iniStep (u % 128) i s = iniStep u i s := by unfold iniStep; rw [e]
  rw [this]
  exact Z147 u k (i + 1) _ (by omega)
theorem ini_good_all : (List.range 128).all (fun u => decide (setErr (Zfk u 7 0 ([], some 0)).1 = 0) && decide ((Zfk u 7 0 ([], some 0)).1.length ≤ 7)) = true := by decide +kernel
theorem Z1e6 (u : Nat) : setErr (setOf u).1 = 0 ∧ (setOf u).1.length ≤ 7 := by
 unfold setOf
 rw [Z147 u 7 0 _ (by omega)]
 have := List.all_eq_true.1 ini_good_all (u % 128) (List.mem_range.2 (Nat.mod_lt _ (by omega)))
 simpa using this
end Go.Ev