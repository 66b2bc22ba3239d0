/-
  The law vidimus/vidimuslaw05.ScalarsErrors of the given program returns true, and leaves its arguments as they are, whatever arguments of its types it is called with.
  Conditions: those that the given statement itself makes; none beside them.
-/
import Derived.Test.YtilgfaangfbndaaDoorEvS9
import Derived.Test.YtilgfaangfbndaaDoorEvA
import Derived.Test.YtilgfaangfbndaaDoorCards
import Derived.Test.YtilgfaangfbndaaDoorTie
import Derived.Deep.DeepHandedRow
import Derived.Lib.LaidTab
import Derived.Lib.LaidIn
set_option linter.unusedVariables false
set_option linter.constructorNameAsVariable false
set_option maxRecDepth 100000
namespace Go.Proofs.YtilgfaangfbndaaDoor.scalarsErrors
open Go Go.RowKit Go.Ev Go.ChangeShapes Go.WideShapes Go.ChangeAt
theorem own : ownKnob Tryd.prog.godebug = none := by kernel_rfl
theorem laidOut : laidOutB Tryd.prog = true := by kernel_rfl
theorem params : Tryd.f7.params.toList = [22, 34] := by kernel_rfl
def okTypes : List TypeId := [22, 5, 34, 31, 28, 4, 29, 32]
theorem params_in : ∀ t, t ∈ Tryd.f7.params.toList → t ∈ okTypes := by
  rw [params]; decide
theorem params_read : ∀ t, t ∈ Tryd.f7.params.toList → Tryd.prog.readableRec t = true ∧ t < Tryd.prog.types.size := by
  have h : Tryd.f7.params.toList.all (fun t => Tryd.prog.readableRec t && decide (t < Tryd.prog.types.size)) = true := by kernel_rfl
  intro t ht
  have := List.all_eq_true.1 h t ht
  simp only [Bool.and_eq_true, decide_eq_true_eq] at this
  exact this
theorem spec_eq : ∀ (H : Type) (ds : List (DataW H)), ds.length = Tryd.f7.params.size → Rows.scalarsErrorsSpec.fn H ds = { results := [.lit (.bool true)], args := ds } := by
  intro H ds hl
  have h1 : Tryd.f7.params.size = 2 := by kernel_rfl
  rw [h1] at hl
  match ds, hl with
  | [_d0, _d1], _ => rfl

theorem u22 : Tryd.prog.underlying 22 = some (.slice 5) := by kernel_rfl
theorem u5 : Tryd.prog.underlying 5 = some (.int .u8) := by kernel_rfl
theorem c5 : Tryd.prog.cellsOf 5 = 1 := by kernel_rfl
theorem u34 : Tryd.prog.underlying 34 = some (.struct #[{ name := "Tag", type := 31, offset := 0, embedded := false, tag := "", pkgPath := "", byteOffset := 0 },
        { name := "Bytes", type := 22, offset := 3, embedded := false, tag := "", pkgPath := "", byteOffset := 8 },
        { name := "Subs", type := 32, offset := 4, embedded := false, tag := "", pkgPath := "", byteOffset := 32 }]) := by kernel_rfl
theorem u31 : Tryd.prog.underlying 31 = some (.struct #[{ name := "Class", type := 28, offset := 0, embedded := false, tag := "", pkgPath := "", byteOffset := 0 },
        { name := "Constructed", type := 4, offset := 1, embedded := false, tag := "", pkgPath := "", byteOffset := 1 },
        { name := "Number", type := 29, offset := 2, embedded := false, tag := "", pkgPath := "", byteOffset := 4 }]) := by kernel_rfl
theorem u28 : Tryd.prog.underlying 28 = some (.int .u8) := by kernel_rfl
theorem u4 : Tryd.prog.underlying 4 = some .bool := by kernel_rfl
theorem u29 : Tryd.prog.underlying 29 = some (.int .u32) := by kernel_rfl
theorem u32 : Tryd.prog.underlying 32 = some (.slice 34) := by kernel_rfl
theorem c34 : Tryd.prog.cellsOf 34 = 5 := by kernel_rfl
theorem c31 : Tryd.prog.cellsOf 31 = 3 := by kernel_rfl
theorem c22 : Tryd.prog.cellsOf 22 = 1 := by kernel_rfl
theorem c32 : Tryd.prog.cellsOf 32 = 1 := by kernel_rfl
theorem c28 : Tryd.prog.cellsOf 28 = 1 := by kernel_rfl
theorem c4 : Tryd.prog.cellsOf 4 = 1 := by kernel_rfl
theorem c29 : Tryd.prog.cellsOf 29 = 1 := by kernel_rfl
theorem fits_pos {n : Nat} {t : TypeId} {ds : List D} (h : Fits Tryd.prog n t ds) : ∃ m, n = m + 1 := by
  cases n with
  | zero => exact h.elim
  | succ m => exact ⟨m, rfl⟩
theorem args_elem {d : D} (h : ArgFits Tryd.prog 34 d) : ∃ (cl : Int) (co : Bool) (nu : Int) (b : List Nat) (cb : Nat) (s : Nat) (cs : Option Nat) (ss : List D), isBy b ∧ d = .agg (elemD cl co nu b (some cb) s cs ss) := by
  obtain ⟨n, hf⟩ := h
  simp only [u34] at hf
  obtain ⟨cs, rfl, hf⟩ := hf
  obtain ⟨n, rfl⟩ := fits_pos hf
  simp only [Fits, u34, c34] at hf
  obtain ⟨hl, hfd⟩ := hf
  match cs, hl with
  | [d0, d1, d2, d3, d4], _ =>
    have h0 := hfd { name := "Tag", type := 31, offset := 0, embedded := false, tag := "", pkgPath := "", byteOffset := 0 } (by simp)
    have h3 := hfd { name := "Bytes", type := 22, offset := 3, embedded := false, tag := "", pkgPath := "", byteOffset := 8 } (by simp)
    have h4 := hfd { name := "Subs", type := 32, offset := 4, embedded := false, tag := "", pkgPath := "", byteOffset := 32 } (by simp)
    simp only [c31, c22, c32, List.drop_zero, List.take_succ_cons, List.take_zero, List.drop_succ_cons] at h0 h3 h4
    obtain ⟨n, rfl⟩ := fits_pos h0
    obtain ⟨b, cb, hb, he⟩ := fits_slice8 u22 u5 c5 h3
    simp only [Fits, u31] at h0
    simp only [Fits, u32] at h4
    obtain ⟨s, cp, ss, hs, _⟩ := h4
    obtain ⟨_, h0⟩ := h0
    have g0 := h0 { name := "Class", type := 28, offset := 0, embedded := false, tag := "", pkgPath := "", byteOffset := 0 } (by simp)
    have g1 := h0 { name := "Constructed", type := 4, offset := 1, embedded := false, tag := "", pkgPath := "", byteOffset := 1 } (by simp)
    have g2 := h0 { name := "Number", type := 29, offset := 2, embedded := false, tag := "", pkgPath := "", byteOffset := 4 } (by simp)
    simp only [c28, c4, c29, List.drop_zero, List.take_succ_cons, List.take_zero, List.drop_succ_cons] at g0 g1 g2
    obtain ⟨n, rfl⟩ := fits_pos g0
    simp only [Fits, u28] at g0
    simp only [Fits, u4] at g1
    simp only [Fits, u29] at g2
    obtain ⟨cl, hcl, _⟩ := g0
    obtain ⟨co, hco⟩ := g1
    obtain ⟨nu, hnu, _⟩ := g2
    refine ⟨cl, co, nu, b, cb, s, some cp, ss, hb, ?_⟩
    simp only [List.cons.injEq, and_true] at he hs hcl hco hnu
    rw [he, hs, hcl, hco, hnu]
    rfl
theorem data (xs : List D) (hl : xs.length = Tryd.f7.params.toList.length) (h : ∀ (j : Nat) t x, Tryd.f7.params.toList[j]? = some t → xs[j]? = some x → ArgFits Tryd.prog t x) : DataSem Tryd.prog 7 xs (.v (.bool true)) := by
  rw [params] at hl h
  match xs, hl with
  | [d, e], _ =>
    obtain ⟨l, cp, hb, rfl⟩ := args_slice8 u22 u5 c5 (h 0 22 d rfl rfl)
    obtain ⟨cl, co, nu, b, cb, s, cs, ss, hbb, rfl⟩ := args_elem (h 1 34 e rfl rfl)
    exact ds7 _ _ (errors_true l hb (some cp) cl co nu b hbb (some cb) s cs ss)


set_option maxRecDepth 100000 in
theorem contract (H : Type) (enc : TypeId × Value → H) (W : World) (base : Nat) (args : Array Value) (ds gs : List (DataW H)) (before : List MemPlace)
    (hval : ∀ (j : Nat) t v, Tryd.f7.params[j]? = some t → args[j]? = some v → Value.okWide Tryd.prog W .any base t v)
    (hW : DataW.Whole enc Tryd.prog Tryd.f7.params.toList Rows.scalarsErrorsSpec.vars false W args.toList ds gs before) :
    Calls Tryd.prog 7 args W fun e W' => ∃ v, e = .returned v ∧ Rows.scalarsErrorsSpec.post enc Tryd.prog Tryd.f7 false true false false W args v W' :=
  law_contract laidOut (tb := 4) (by kernel_rfl) (by kernel_rfl) rfl (ts := okTypes) (by kernel_rfl) params_in params_read
    spec_eq data hval hW

/-- A WORLD FOR THE WITNESS: the settled one, the two tables holding what their initialisers lay. -/
noncomputable def laidWorld (os : Os) : World :=
  let w0 := World.holding Tryd.prog os ⟨#[], #[], []⟩
  let put (h : Array Obj) (g : Nat) (cs : Array Value) : Array Obj := h.modify g fun
    | .cells _ t frozen => .cells cs t frozen
    | o => o
  let h1 := put w0.heap 2 (([128, 191, 160, 191, 128, 159, 144, 191, 128, 143] ++ List.replicate 22 0).map fun (z : Nat) => Value.int .u8 (z : Int)).toArray
  let h2 := put h1 1 (Pinned.utf8FirstZ.map fun (z : Nat) => Value.int .u8 (z : Int)).toArray
  { w0 with heap := h2 }
theorem laid_met (os : Os) : laidMet Tryd.prog Rows.scalarsErrorsRow.laid ((laidWorld os).forCall (fun _ _ => 0) ⟨#[], #[.slice none 0 0, .agg #[.int .u8 0, .bool false, .int .u32 0, .slice none 0 0, .slice none 0 0]], []⟩).memory :=
  laidMet_of_run' 8 (by kernel_rfl) (by kernel_rfl)
theorem reads (os : Os) {H : Type} (enc : TypeId × Value → H) : ∃ places, DataW.whole enc Tryd.prog ((laidWorld os).forCall (fun _ _ => 0) ⟨#[], #[.slice none 0 0, .agg #[.int .u8 0, .bool false, .int .u32 0, .slice none 0 0, .slice none 0 0]], []⟩).memory Tryd.f7.params.toList Rows.scalarsErrorsSpec.vars false (#[.slice none 0 0, .agg #[.int .u8 0, .bool false, .int .u32 0, .slice none 0 0, .slice none 0 0]] : Array Value).toList 8 = some ([.nil, .agg [.agg [.lit (.int .u8 0), .lit (.bool false), .lit (.int .u32 0)], .nil, .nil]], [], places) :=
  ⟨[], by kernel_rfl⟩

set_option maxRecDepth 100000 in
theorem lifted (os : Os) (started : os.Started) (H : Type) (enc : TypeId × Value → H) (F : Stop.Interp) :
    ReturnsInHanded {} Tryd.checked os 7 .any ((OpenSpec.ofChange Rows.scalarsErrorsSpec).preRow enc Tryd.prog Tryd.f7 Rows.scalarsErrorsRow.domain false Rows.scalarsErrorsRow.laid) (((OpenSpec.ofChange Rows.scalarsErrorsSpec).at F).post enc Tryd.prog Tryd.f7 false true false false) := by
  obtain ⟨places, hx⟩ := reads os enc
  refine returnsInHanded_of_row (C := Tryd.checked) (s := OpenSpec.ofChange Rows.scalarsErrorsSpec) own started (by kernel_rfl) Tryd.func7
    (witness_row_at (enc := enc) (C := Tryd.checked) false (laidWorld os) #[.slice none 0 0, .agg #[.int .u8 0, .bool false, .int .u32 0, .slice none 0 0, .slice none 0 0]] rfl (by kernel_rfl) (by kernel_rfl) (by kernel_rfl)
      (OpenSpec.preRow_of_cond 8 hx (by kernel_rfl) (fun k hk => by cases hk) (by kernel_rfl) (laid_met os))) ?_
  intro W base args ds gs before hval hW _ _ _ hL _ _
  exact contract H enc W base args ds gs before hval hW

theorem said : Rows.ScalarsErrorsSaid :=
  OpenClaim.holds_of_cond 7 Tryd.f7 rfl rfl rfl rfl rfl rfl rfl ⟨rfl, rfl, rfl, rfl, rfl⟩ rfl rfl rfl rfl rfl (by kernel_rfl) Tryd.func7 (by kernel_rfl)
    (of_decide_eq_true (by kernel_rfl)) (by unfold Func.isWrapper; first | (rw [if_pos (by decide +kernel)]; kernel_rfl) | (rw [if_neg (by decide +kernel)]; exact ⟨rfl, rfl⟩))
    (fun os started H enc _ F => by rw [OpenClaim.pre_eq_preRow]; exact lifted os started H enc F)

theorem plain (f : FuncId) (fn : Func) (hf : Tryd.pinned.checked.prog.funcNamed "vidimus/vidimuslaw05.ScalarsErrors" = some f) (hfn : Tryd.pinned.checked.prog.funcs[f]? = some fn) :
    false = Tryd.pinned.checked.prog.looks [] ∧ ∀ (j : Nat) t, fn.params[j]? = some t → Tryd.pinned.checked.prog.wantsStandIn t = false := by
  obtain rfl : f = 7 := Option.some.inj ((show Tryd.prog.funcNamed "vidimus/vidimuslaw05.ScalarsErrors" = some 7 by kernel_rfl).symm.trans hf) |>.symm
  obtain rfl : fn = Tryd.f7 := (Option.some.inj (Tryd.func7.symm.trans hfn)).symm
  refine ⟨by kernel_rfl, fun j t ht => ?_⟩
  have h : Tryd.f7.params.toList.all (fun t => !Tryd.prog.wantsStandIn t) = true := by kernel_rfl
  have ht' : t ∈ Tryd.f7.params.toList := List.mem_of_getElem? (by simpa using ht)
  have := List.all_eq_true.1 h t ht'
  simp only [Bool.not_eq_true'] at this
  exact this

theorem card : Rows.ScalarsErrorsCardSaid :=
  Claim7.holds_tied_plain_at .later [] _ _ _ _ said (fun _ h => by cases h) (by kernel_rfl) (fun _ h => by cases h) scalarsErrors_row_tie rfl ⟨rfl, rfl⟩ (by kernel_rfl) rfl plain (by kernel_rfl)
#print axioms card
end Go.Proofs.YtilgfaangfbndaaDoor.scalarsErrors
