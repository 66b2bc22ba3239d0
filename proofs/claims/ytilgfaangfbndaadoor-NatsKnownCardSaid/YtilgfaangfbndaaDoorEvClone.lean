/-
  bytes.Clone: from data to data; the comparison with nil by hand.
-/
import Derived.Test.YtilgfaangfbndaaDoorEvXD
import Derived.Lib.SliceRun
import Derived.Test.YtilgfaangfbndaaDoorChecked
set_option linter.unusedSimpArgs false
set_option linter.unusedVariables false
set_option maxRecDepth 100000
namespace Go.Ev
open Go Go.Proofs Go.RowKit

abbrev E3 := Ex × St
def fin3 : Ex → St → Option E3 := fun e st => some (e, st)
def or3 : Orc E3 := fun _ _ _ _ => none
theorem or3_ok {P : Program} : OrOk P or3 := fun _ _ _ _ _ h => by cases h
def fh0 : FnH := ⟨[], []⟩

/-- Code by itself. -/
theorem code3 {P : Program} (hm : P.follows .mixedOrders = true) {base : Nat} {c : Code} {st : St} {e : Ex} {st' : St} (h : codeK P [] base or3 0 fh0 c st fin3 = some (e, st')) : CodeSem P base c st e st' := by
  obtain ⟨e1, st1, h1, hs⟩ := code_sound (sp := []) SpOk.nil hm or3_ok h
  cases h1
  exact hs

def sp90 : List D → Option D
  | [.list 0 _ []] => some (.list 0 (some 0) [])
  | [.list n _ cs] => if fitsRow (0 + n) 1 ∧ cs.length = n ∧ n ≠ 0 then some (.list n none cs) else none
  | _ => none

namespace Clone
noncomputable def A : Code := subc [0] (bodyOf Tryd.f90)
noncomputable def B : Code := subc [1, 0, 0] (bodyOf Tryd.f90)
noncomputable def X : Code := subc [1, 0, 1] (bodyOf Tryd.f90)
noncomputable def C : Code := subc [1, 1] (bodyOf Tryd.f90)
theorem body : Tryd.f90.body = some (.seq A (.seq (.seq B X) C)) := by kernel_rfl
def z : AV := .d (.list 0 (some 0) [])
def st0 (x : AV) : St := ⟨[x, .junk, .junk, .junk, .junk, .junk, .junk, .junk], []⟩
def st1 (x : AV) : St := ⟨[x, .junk, z, .junk, .junk, .junk, .junk, .junk], []⟩
def st2 (x : AV) (b : Bool) : St := ⟨[x, .junk, z, x, .d (.v (.bool b)), .junk, .junk, .junk], []⟩
theorem eA (x : AV) : codeK Tryd.prog [] 0 or3 0 fh0 A (st0 x) fin3 = some (.normal, st1 x) := by kernel_rfl
theorem eX1 (x : AV) : codeK Tryd.prog [] 0 or3 0 fh0 X (st2 x true) fin3 = some (.ret, st2 x true) := by kernel_rfl
theorem eX0 (x : AV) : codeK Tryd.prog [] 0 or3 0 fh0 X (st2 x false) fin3 = some (.normal, st2 x false) := by kernel_rfl
def s5 : AV := .sl 0 0 0 (some 0) 1
def st3 (x : AV) (r : AV) (L : Heap) : St := ⟨[x, .junk, r, x, .d (.v (.bool false)), s5, x, r], L⟩
theorem eC0 (c : Option Nat) : codeK Tryd.prog [] 0 or3 0 fh0 C (st2 (.d (.list 0 c [])) false) fin3 = some (.ret, st3 (.d (.list 0 c [])) s5 [.d 0 []]) := by kernel_rfl
theorem eC (c : Option Nat) (n : Nat) (cs : List D) : codeK Tryd.prog [] 0 or3 0 fh0 C (st2 (.d (.list (n + 1) c cs)) false) fin3 =
    if cs.length = (n + 1) * 1 then (if 0 + (n + 1) ≤ 0 then (if 0 + (0 + (n + 1)) * 1 ≤ 0 ∧ cs.length = (n + 1) * 1 then some (.ret, st3 (.d (.list (n + 1) c cs)) (.sl 0 0 (0 + (n + 1)) (some 0) 1) [.d 0 (List.take (0 + 0 * 1) [] ++ (cs ++ List.drop (0 + (0 + (n + 1)) * 1) []))]) else none)
      else if fitsRow (0 + (n + 1)) 1 ∧ cs.length = (n + 1) * 1 then some (.ret, st3 (.d (.list (n + 1) c cs)) (.sl 1 0 (0 + (n + 1)) none 1) [.d 0 [], .d ((0 + (n + 1)) * 1) ([] ++ cs)]) else none) else none := by kernel_rfl

theorem results : Tryd.f90.results.toList = [.tmp 2] := by kernel_rfl
theorem Bops : B = .region 1 (regOps B) false := by kernel_rfl
noncomputable def o0 : Oper := (regOps B).toList.getD 0 default
noncomputable def o1 : Oper := (regOps B).toList.getD 1 default
theorem Blist : (regOps B).toList = [o0, o1] := by kernel_rfl
theorem o0op : o0.op = .move (.tmp 0) := by kernel_rfl
theorem o0dst : o0.dst = some 3 := by kernel_rfl
theorem o0g : o0.guard = none := by kernel_rfl
theorem o1op : o1.op = .binOp .eql 22 (.tmp 3) (.const (.slice none 0 0)) 22 := by kernel_rfl
theorem o1dst : o1.dst = some 4 := by kernel_rfl
theorem o1g : o1.guard = none := by kernel_rfl
theorem t22 : Tryd.prog.underlying 22 = some (.slice 5) := by kernel_rfl
theorem mixed : Tryd.prog.follows .mixedOrders = true := by kernel_rfl
theorem en : Enters Tryd.prog 90 := ⟨Tryd.f90, Tryd.func90, by kernel_rfl, by kernel_rfl⟩

theorem list_inv {w : World} {ok : Nat → Prop} {u : Value} {n : Nat} {c : Option Nat} {cs : List D} (h : RepD w ok u (.list n c cs)) : ∃ a cp, u = .slice a n cp ∧ (a.isNone = true → n = 0) := by
  cases h with
  | nil _ => exact ⟨_, 0, rfl, fun _ => rfl⟩
  | list _ _ _ _ _ _ => exact ⟨_, _, rfl, fun h => by simp at h⟩

theorem run_eqGuard_slice (w : World) (xo yo : Operand) (a : Option Addr) (n c : Nat) : (eqGuard .eql 22 xo yo (.slice a n c) (.slice none 0 0)).run Tryd.prog w = .ok () w := by
  unfold eqGuard; simp

/-- The comparison with nil. -/
theorem B_wp {B0 : Nat} {w0 : World} {ok : Nat → Prop} {E : Env} {n : Nat} {c : Option Nat} {cs : List D} {a : Act} {w : World} (hS : Sim B0 w0 ok E (st1 (.d (.list n c cs))) a w) (Q : Exit → Act → World → Prop)
    (hQ : ∀ b a', Sim B0 w0 ok E (st2 (.d (.list n c cs)) b) a' w → (b = true → n = 0) → Q .normal a' w) : B.wp Tryd.prog Q a w := by
  rw [Bops]
  refine wp_region_list ?_
  rw [Blist]
  have hr := hS.sl.ev (.tmp 0)
  generalize hu : a.eval (.tmp 0) = u at hr
  have hD : RepD w ok u (.list n c cs) := by
    have : ev (st1 (.d (.list n c cs))).sl (.tmp 0) = .d (.list n c cs) := rfl
    rw [this] at hr
    cases hr with
    | d h => exact h
  obtain ⟨a0, cp, rfl, hn⟩ := list_inv hD
  have hsz : a.tmps.size = 8 := hS.size
  unfold wpList
  rw [if_pos (wanted_none o0g _)]
  refine .inl (wp_value (u := .slice a0 n cp) (w' := w) (by simp [execOp, o0op, hu]) ?_)
  have hS2 := hS.put hS.mem (.d hD) hS.sl rfl (some 3)
  rw [o0dst]
  unfold wpList
  rw [if_pos (wanted_none o1g _)]
  have he : (a.put (some 3) (.slice a0 n cp)).eval (.tmp 3) = .slice a0 n cp := by
    simp [Act.put, Act.eval, hsz]
  refine .inl (wp_value (u := .bool a0.isNone) (w' := w) ?_ ?_)
  · have e2 : (a.put (some 3) (.slice a0 n cp)).eval (.const (.slice none 0 0)) = .slice none 0 0 := rfl
    have := Lib.run_eql_slice_nil (P := Tryd.prog) w 22 5 a0 n cp 0 0 t22
    simp only [execOp, o1op, he, e2, Sem.run_bind, run_eqGuard_slice, Result.andThen, this, Sem.run_pure]
  · rw [o1dst]
    exact hQ _ _ (hS2.put hS2.mem (.d (.v rfl)) hS2.sl rfl (some 4)) hn

/-- What leaves. -/
theorem fin {w : World} {ok ok' : Nat → Prop} {E' : Env} {st : St} {a : Act} {w' : World} {d : D} (hS : Sim w.heap.size w ok' E' st a w') (ext : ∀ b, ok' b → ok b ∨ w.heap.size ≤ b) (hv : viewD st.L 8 (st.sl.getD 2 .junk) = some d) :
    bodyPost Tryd.prog Tryd.f90 (fun e w' => ∃ u ok', e = .returned u ∧ Below w.heap.size w w' ∧ (∀ b, ok' b → b < w'.heap.size ∧ (ok b ∨ w.heap.size ≤ b)) ∧ RepD w' ok' u d) .ret a w' := by
  refine ⟨hS.defers, _, run_results (us := [a.tmps.getD 2 undef]) (by rw [results]; simp [List.mapM_cons, resultM]), ?_⟩
  have hr : Rep E' w' ok' (a.tmps.getD 2 undef) (st.sl.getD 2 .junk) := hS.sl.ev (.tmp 2)
  exact ⟨_, fun b => b < w'.heap.size ∧ (ok b ∨ w.heap.size ≤ b), rfl, hS.mem.below, fun b hb => hb, viewD_sound hv hS.mem (fun b hb => ⟨(hS.mem.okb b hb).1, ext b hb⟩) (fun id b m he => ⟨hS.mem.lt he, .inr (hS.mem.loc id b m he).1⟩) hr⟩

theorem main (n : Nat) (c : Option Nat) (cs : List D) (d : D)
    (h1 : n = 0 → d = .list 0 (some 0) [])
    (h2 : ∃ r L, codeK Tryd.prog [] 0 or3 0 fh0 C (st2 (.d (.list n c cs)) false) fin3 = some (.ret, st3 (.d (.list n c cs)) r L) ∧ viewD L 8 r = some d) : DataSem Tryd.prog 90 [.list n c cs] d := by
  refine ⟨en, fun {w ok vals} hok hv => ?_⟩
  obtain ⟨hvl, hvr⟩ := hv
  match vals, hvl with
  | [v], _ =>
    have hv := hvr 0 v _ rfl rfl
    refine calls_of_wp Tryd.func90 body ?_
    have hntmps : Tryd.f90.ntmps = 8 := by kernel_rfl
    rw [hntmps]
    have hS0 : Sim w.heap.size w ok (fun _ => none) (st0 (.d (.list n c cs))) { tmps := #[v] ++ Array.replicate (8 - (#[v] : Array Value).size) undef, defers := [] } w := by
      refine ⟨{ below := Below.refl _ _, okb := fun b hb => ⟨hok b hb, fun id m he => (nomatch he)⟩, inj := fun i j b m m' hi => (nomatch hi), loc := fun id b m he => (nomatch he), b0 := Nat.le_refl _, wf := fun i B hB => by simp [st0] at hB }, fun t x hx => ?_, rfl, rfl⟩
      match t, hx with
      | 0, hx => cases hx; exact .d hv
      | 1, hx => cases hx; exact .junk
      | 2, hx => cases hx; exact .junk
      | 3, hx => cases hx; exact .junk
      | 4, hx => cases hx; exact .junk
      | 5, hx => cases hx; exact .junk
      | 6, hx => cases hx; exact .junk
      | 7, hx => cases hx; exact .junk
      | t + 8, hx => cases hx
    refine wp_seq ((code3 mixed (eA _)).2 hS0 _ fun ok1 E1 a1 w1 hS1 g1 => ?_)
    refine wp_seq (wp_seq (B_wp hS1 _ fun b a2 hS2 hb => ?_))
    cases b with
    | true =>
      have hd := h1 (hb rfl)
      refine (code3 mixed (eX1 _)).2 hS2 _ fun ok3 E3 a3 w3 hS3 g3 => ?_
      exact fin hS3 (fun b hb => (g3.ext b hb).elim (g1.ext b) .inr) (by rw [hd]; rfl)
    | false =>
      refine (code3 mixed (eX0 _)).2 hS2 _ fun ok3 E3 a3 w3 hS3 g3 => ?_
      obtain ⟨r, L, hC, hview⟩ := h2
      refine (code3 mixed hC).2 hS3 _ fun ok4 E4 a4 w4 hS4 g4 => ?_
      exact fin hS4 (fun b hb => (g4.ext b hb).elim (fun hb => (g3.ext b hb).elim (g1.ext b) .inr) .inr) hview
  | [], h => exact absurd h (by simp)
  | _ :: _ :: _, h => exact absurd h (by simp)
end Clone

theorem ds90 : ∀ ds d, sp90 ds = some d → DataSem Tryd.prog 90 ds d := by
  intro ds d h
  unfold sp90 at h
  split at h
  · rename_i c
    cases h
    exact Clone.main 0 c [] _ (fun _ => rfl) ⟨_, _, Clone.eC0 c, by simp [viewD, cut, cutL, Clone.s5]⟩
  · rename_i n c cs hn
    split at h
    · rename_i hc
      cases h
      obtain ⟨n, rfl⟩ : ∃ k, n = k + 1 := ⟨n - 1, by have := hc.2.2; omega⟩
      refine Clone.main (n + 1) c cs _ (fun h => by omega) ⟨.sl 1 0 (0 + (n + 1)) none 1, [.d 0 [], .d ((0 + (n + 1)) * 1) ([] ++ cs)], ?_, ?_⟩
      · rw [Clone.eC, if_pos (by have := hc.2.1; omega), if_neg (by omega), if_pos ⟨hc.1, by have := hc.2.1; omega⟩]
      · simp [viewD, cut, cutL]
    · cases h
  · cases h
end Go.Ev
