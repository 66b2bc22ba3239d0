/-
  The law vidimus/vidimuslaw28.PtreesStart of the given program returns true, and leaves its arguments as they are, whatever arguments of its types it is called with.
  Conditions: those that the given statement itself makes; none beside them.
-/
import Derived.Test.YthakkigkdhaihaaGreatDoorEzYi
import Derived.Test.YthakkigkdhaihaaGreatDoorEzS1
import Derived.Test.YthakkigkdhaihaaGreatDoorCards
import Derived.Test.YthakkigkdhaihaaGreatDoorTie
import Derived.Deep.DeepHandedRow
import Derived.Lib.LaidTab
import Derived.Lib.LaidIn
set_option linter.unusedVariables false
set_option linter.constructorNameAsVariable false
set_option maxRecDepth 100000
namespace Go.Proofs.YthakkigkdhaihaaGreatDoor.ptreesStart
open Go Go.RowKit Go.Ev Go.ChangeShapes Go.WideShapes Go.ChangeAt
theorem own : ownKnob Tryz.prog.godebug = none := by kernel_rfl
theorem laidOut : laidOutB Tryz.prog = true := by kernel_rfl
theorem params : Tryz.f6.params.toList = [3, 3, 34] := by kernel_rfl
def okTypes : List TypeId := [3, 34, 32, 4, 55, 5, 53, 52]
theorem params_in : ∀ t, t ∈ Tryz.f6.params.toList → t ∈ okTypes := by
  rw [params]; decide
theorem params_read : ∀ t, t ∈ Tryz.f6.params.toList → Tryz.prog.readableRec t = true ∧ t < Tryz.prog.types.size := by
  have h : Tryz.f6.params.toList.all (fun t => Tryz.prog.readableRec t && decide (t < Tryz.prog.types.size)) = true := by kernel_rfl
  intro t ht
  have := List.all_eq_true.1 h t ht
  simp only [Bool.and_eq_true, decide_eq_true_eq] at this
  exact this
theorem spec_eq : ∀ (H : Type) (ds : List (DataW H)), ds.length = Tryz.f6.params.size → Rows.ptreesStartSpec.fn H ds = { results := [.lit (.bool true)], args := ds } := by
  intro H ds hl
  have h1 : Tryz.f6.params.size = 3 := by kernel_rfl
  rw [h1] at hl
  match ds, hl with
  | [_d0, _d1, _d2], _ => rfl

theorem data (xs : List D) (hl : xs.length = Tryz.f6.params.toList.length) (h : ∀ (j : Nat) t x, Tryz.f6.params.toList[j]? = some t → xs[j]? = some x → ArgFits Tryz.prog t x) : DataSem Tryz.prog 6 xs (.v (.bool true)) := by
  rw [params] at hl h
  match xs, hl with
  | [e0, e1, e2], _ =>
    obtain ⟨n, rfl⟩ := Z1k7 (h 0 3 e0 rfl rfl)
    obtain ⟨b, rfl⟩ := Z1k7 (h 1 3 e1 rfl rfl)
    obtain ⟨l, cp, x, y, z, hl, rfl⟩ := Z1j4 (h 2 34 e2 rfl rfl)
    exact Z149 _ _ (Z1d2 n b hl (some cp) x y z)


set_option maxRecDepth 100000 in
theorem contract (H : Type) (enc : TypeId × Value → H) (W : World) (base : Nat) (args : Array Value) (ds gs : List (DataW H)) (before : List MemPlace)
    (hval : ∀ (j : Nat) t v, Tryz.f6.params[j]? = some t → args[j]? = some v → Value.okWide Tryz.prog W .any base t v)
    (hW : DataW.Whole enc Tryz.prog Tryz.f6.params.toList Rows.ptreesStartSpec.vars false W args.toList ds gs before) (hL : laidMet Tryz.prog Rows.ptreesStartRow.laid W) :
    Calls Tryz.prog 6 args W fun e W' => ∃ v, e = .returned v ∧ Rows.ptreesStartSpec.post enc Tryz.prog Tryz.f6 false true false false W args v W' :=
  Z1ge laidOut (tb := 4) (by kernel_rfl) (by kernel_rfl) rfl (ts := okTypes) (by kernel_rfl) params_in params_read
    spec_eq data hval hW (gl_row hL rfl rfl rfl rfl rfl)

/-- A WORLD FOR THE WITNESS: the settled one, the variables holding what their initialisers lay. -/
noncomputable def Z1d3 (os : Os) : World :=
  let w0 := World.holding Tryz.prog os ⟨#[], #[], []⟩
  let put (h : Array Obj) (g : Nat) (cs : Array Value) : Array Obj := h.modify g fun
    | .cells _ t frozen => .cells cs t frozen
    | o => o
  let tag (b : Bool) (n : Int) : Array Value := #[.int .u8 0, .bool b, .int .u32 n]
  let h1 := put w0.heap 4 (([128, 191, 160, 191, 128, 159, 144, 191, 128, 143] ++ List.replicate 22 0).map fun (z : Nat) => Value.int .u8 (z : Int)).toArray
  let h2 := put h1 3 (Pinned.utf8FirstZ.map fun (z : Nat) => Value.int .u8 (z : Int)).toArray
  let h3 := put (put (put (put h2 0 (tag true 16)) 1 (tag false 6)) 2 (tag false 22)) 5 (tag false 2)
  let h4 := put h3 6 #[.int .u32 12, .int .u32 22, .int .u32 26, .int .u32 30]
  { w0 with heap := h4 }
theorem Z1l9 (os : Os) : laidMet Tryz.prog Rows.ptreesStartRow.laid ((Z1d3 os).forCall (fun _ _ => 0) ⟨#[], #[.int .i64 0, .int .i64 0, .agg #[.slice none 0 0, .bool false, .bool false, .bool false]], []⟩).memory :=
  laidMet_of_run' 8 (by kernel_rfl) (by kernel_rfl)
theorem reads (os : Os) {H : Type} (enc : TypeId × Value → H) : ∃ places, DataW.whole enc Tryz.prog ((Z1d3 os).forCall (fun _ _ => 0) ⟨#[], #[.int .i64 0, .int .i64 0, .agg #[.slice none 0 0, .bool false, .bool false, .bool false]], []⟩).memory Tryz.f6.params.toList Rows.ptreesStartSpec.vars false (#[.int .i64 0, .int .i64 0, .agg #[.slice none 0 0, .bool false, .bool false, .bool false]] : Array Value).toList 8 = some ([.lit (.int .i64 0), .lit (.int .i64 0), .agg [.nil, .lit (.bool false), .lit (.bool false), .lit (.bool false)]], [], places) :=
  ⟨[], by kernel_rfl⟩

set_option maxRecDepth 100000 in
theorem lifted (os : Os) (started : os.Started) (H : Type) (enc : TypeId × Value → H) (F : Stop.Interp) :
    ReturnsInHanded {} Tryz.checked os 6 .any ((OpenSpec.ofChange Rows.ptreesStartSpec).preRow enc Tryz.prog Tryz.f6 Rows.ptreesStartRow.domain false Rows.ptreesStartRow.laid) (((OpenSpec.ofChange Rows.ptreesStartSpec).at F).post enc Tryz.prog Tryz.f6 false true false false) := by
  obtain ⟨places, hx⟩ := reads os enc
  refine returnsInHanded_of_row (C := Tryz.checked) (s := OpenSpec.ofChange Rows.ptreesStartSpec) own started (by kernel_rfl) Tryz.func6
    (witness_row_at (enc := enc) (C := Tryz.checked) false (Z1d3 os) #[.int .i64 0, .int .i64 0, .agg #[.slice none 0 0, .bool false, .bool false, .bool false]] rfl (by kernel_rfl) (by kernel_rfl) (by kernel_rfl)
      (OpenSpec.preRow_of_cond 8 hx (by kernel_rfl) (fun k hk => by cases hk) (by kernel_rfl) (Z1l9 os))) ?_
  intro W base args ds gs before hval hW _ _ _ hL _ _
  exact contract H enc W base args ds gs before hval hW hL

theorem cl1 : (Rows.ptreesStartRow.inPlace == Tryz.prog.inPlace 6) = true := by kernel_rfl
theorem cl2 : (Rows.ptreesStartRow.unfollowed == Tryz.prog.unfollowed 6) = true := by kernel_rfl
theorem cl3 : (Rows.ptreesStartRow.recurses == Tryz.prog.recurses 6) = true := by kernel_rfl
theorem cl4 : (Rows.ptreesStartRow.named == Tryz.prog.varsNamed 6) = true := by kernel_rfl
theorem closed : joinedFacts Tryz.prog 6 Tryz.f6 (OpenSpec.ofChange Rows.ptreesStartSpec).bare Rows.ptreesStartRow = true := by
  unfold joinedFacts
  rw [cl1, cl2, cl3, cl4]
  kernel_rfl
theorem inst : Func.isInstance Tryz.prog Tryz.f6 Rows.ptreesStartRow.origin Rows.ptreesStartRow.targs := of_decide_eq_true (by kernel_rfl)
theorem said : Rows.PtreesStartSaid :=
  OpenClaim.holds_of_cond 6 Tryz.f6 rfl rfl rfl rfl rfl rfl rfl ⟨rfl, rfl, rfl, rfl, rfl⟩ rfl rfl rfl rfl rfl (by kernel_rfl) Tryz.func6 closed
    inst (by unfold Func.isWrapper; first | (rw [if_pos (by decide +kernel)]; kernel_rfl) | (rw [if_neg (by decide +kernel)]; exact ⟨rfl, rfl⟩))
    (fun os started H enc _ F => by rw [OpenClaim.pre_eq_preRow]; exact lifted os started H enc F)

theorem plain (f : FuncId) (fn : Func) (hf : Tryz.pinned.checked.prog.funcNamed "vidimus/vidimuslaw28.PtreesStart" = some f) (hfn : Tryz.pinned.checked.prog.funcs[f]? = some fn) :
    true = Tryz.pinned.checked.prog.looks [] ∧ ∀ (j : Nat) t, fn.params[j]? = some t → Tryz.pinned.checked.prog.wantsStandIn t = false := by
  obtain rfl : f = 6 := Option.some.inj ((show Tryz.prog.funcNamed "vidimus/vidimuslaw28.PtreesStart" = some 6 by kernel_rfl).symm.trans hf) |>.symm
  obtain rfl : fn = Tryz.f6 := (Option.some.inj (Tryz.func6.symm.trans hfn)).symm
  refine ⟨by kernel_rfl, fun j t ht => ?_⟩
  have h : Tryz.f6.params.toList.all (fun t => !Tryz.prog.wantsStandIn t) = true := by kernel_rfl
  have ht' : t ∈ Tryz.f6.params.toList := List.mem_of_getElem? (by simpa using ht)
  have := List.all_eq_true.1 h t ht'
  simp only [Bool.not_eq_true'] at this
  exact this

theorem card : Rows.PtreesStartCardSaid :=
  Claim7.holds_tied_plain_at .later [] _ _ _ _ said (fun _ h => by cases h) (by kernel_rfl) (fun _ h => by cases h) ptreesStart_row_tie rfl ⟨rfl, rfl⟩ (by kernel_rfl) rfl plain (by kernel_rfl)
#print axioms card
end Go.Proofs.YthakkigkdhaihaaGreatDoor.ptreesStart
