/-
 strings.Join as a function from data to data, by the shelf's contract. No conditions.
-/
import Derived.Test.YtnghcoghbbapgaaGreatDoorEzP
import Derived.Test.YtnghcoghbbapgaaGreatDoorEzJn0
set_option linter.unusedVariables false
set_option maxRecDepth 100000
namespace Go.Ev
open Go Go.Proofs Go.RowKit
def strsOf : List D → Option (List ByteArray)
 | [] => some []
 | .v (.string s) :: r => (strsOf r).bind fun l => some (s :: l)
 | _ => none
theorem strsOf_some : ∀ {cs : List D} {ss : List ByteArray}, strsOf cs = some ss → ss.length = cs.length ∧ ∀ (j : Nat) x, ss[j]? = some x → cs[j]? = some (.v (.string x))
 | [], ss, h => by cases h; exact ⟨rfl, fun j x hx => by simp at hx⟩
 | d :: r, ss, h => by
  unfold strsOf at h
  split at h
  ·rename_i heq; cases heq
  ·rename_i s r' heq
   cases heq
   obtain ⟨l, hl, h2⟩ := Option.bind_eq_some_iff.1 h
   cases h2
   obtain ⟨h1, h3⟩ := strsOf_some hl
   refine ⟨by simp [h1], fun j x hx => ?_⟩
   cases j with
   | zero => cases hx; rfl
   | succ j => simpa using h3 j x (by simpa using hx)
  ·cases h
def joinB (ss : List ByteArray) (sep : ByteArray) : List UInt8 := Lib.join (ss.map (·.data.toList)) sep.data.toList
def tp_strings_Join : List D → Option D
 | [.list n _ cs, .v (.string sep)] => (strsOf cs).bind fun ss => if n = ss.length ∧ ss.length ≤ 140737488355328 ∧ (joinB ss sep).length ≤ 140737488355328 then some (.v (.string ⟨(joinB ss sep).toArray⟩)) else none
 | _ => none
theorem td_strings_Join : ∀ ds d, tp_strings_Join ds = some d → DataSem Tryz.prog 95 ds d := by
 intro ds d h
 unfold tp_strings_Join at h
 split at h
 case h_2 => cases h
 rename_i n cap cs sep
 obtain ⟨ss, hss, h1⟩ := Option.bind_eq_some_iff.1 h
 split at h1
 case isFalse => cases h1
 rename_i hc
 obtain ⟨hn0, hN, hlen⟩ := hc
 cases h1
 obtain ⟨hl, hget⟩ := strsOf_some hss
 refine ⟨⟨Tryz.f95, Tryz.func95, by kernel_rfl, by kernel_rfl⟩, fun {w ok vals} hok hgl hv => ?_⟩
 obtain ⟨hvl, hvr⟩ := hv
 obtain ⟨u1, u2, rfl⟩ : ∃ u1 u2, vals = [u1, u2] := by
  match vals, hvl with
  | [u1, u2], _ => exact ⟨u1, u2, rfl⟩
 clear hvl
 ·skip
  have r1 := hvr 0 u1 _ rfl rfl
  have r2 := hvr 1 u2 _ rfl rfl
  cases r2 with
  | v hlf =>
  cases r1 with
  | nil hc0 =>
   rename_i a
   have hs0 : ss = [] := List.eq_nil_of_length_eq_zero hn0.symm
   subst hs0
   refine (Tryz.strings_Join_none a 0 sep w).mono ?_
   rintro e w' ⟨rfl, rfl⟩
   exact ⟨_, fun _ => False, rfl, Below.refl _ _, fun b hb => hb.elim, .v rfl⟩
  | list hb hn hcap h1 hcell hrep =>
   rename_i b off cp f
   subst hn0
   refine (Tryz.strings_Join b off cp ss sep w (fun j x hx => ?_) (hok _ hb) hN hn hlen).mono ?_
   ·have hj := (List.getElem?_eq_some_iff.1 hx).1
    have hr := hrep j _ (hget j x hx)
    rw [hcell j (by omega)]
    generalize f j = v at hr
    cases hr with
    | v hl => rfl
   ·rintro e w' ⟨rfl, hb'⟩
    exact ⟨_, fun _ => False, rfl, hb', fun b hb => hb.elim, .v rfl⟩
end Go.Ev