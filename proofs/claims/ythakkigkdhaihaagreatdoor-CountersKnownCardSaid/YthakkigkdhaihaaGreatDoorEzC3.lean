/-
  The law vidimus/vidimuslaw24.CountersKnown of the given program returns true, and leaves its arguments as they are, whatever arguments of its types it is called with.
  Conditions: those that the given statement itself makes; none beside them.
-/
import Derived.Test.YthakkigkdhaihaaGreatDoorEzYg
import Derived.Test.YthakkigkdhaihaaGreatDoorEzR8
import Derived.Test.YthakkigkdhaihaaGreatDoorCards
import Derived.Test.YthakkigkdhaihaaGreatDoorTie
import Derived.Deep.DeepHandedRow
import Derived.Lib.LaidTab
import Derived.Lib.LaidIn
set_option linter.unusedVariables false
set_option linter.constructorNameAsVariable false
set_option maxRecDepth 100000
namespace Go.Proofs.YthakkigkdhaihaaGreatDoor.countersKnown
open Go Go.RowKit Go.Ev Go.ChangeShapes Go.WideShapes Go.ChangeAt
theorem own : ownKnob Tryz.prog.godebug = none := by kernel_rfl
theorem laidOut : laidOutB Tryz.prog = true := by kernel_rfl
theorem params : Tryz.f3.params.toList = [] := by kernel_rfl
def okTypes : List TypeId := []
theorem params_in : ∀ t, t ∈ Tryz.f3.params.toList → t ∈ okTypes := by
  rw [params]; decide
theorem params_read : ∀ t, t ∈ Tryz.f3.params.toList → Tryz.prog.readableRec t = true ∧ t < Tryz.prog.types.size := by
  have h : Tryz.f3.params.toList.all (fun t => Tryz.prog.readableRec t && decide (t < Tryz.prog.types.size)) = true := by kernel_rfl
  intro t ht
  have := List.all_eq_true.1 h t ht
  simp only [Bool.and_eq_true, decide_eq_true_eq] at this
  exact this
theorem spec_eq : ∀ (H : Type) (ds : List (DataW H)), ds.length = Tryz.f3.params.size → Rows.countersKnownSpec.fn H ds = { results := [.lit (.bool true)], args := ds } := by
  intro H ds hl
  have h1 : Tryz.f3.params.size = 0 := by kernel_rfl
  rw [h1] at hl
  match ds, hl with
  | [], _ => rfl

theorem data (xs : List D) (hl : xs.length = Tryz.f3.params.toList.length) (h : ∀ (j : Nat) t x, Tryz.f3.params.toList[j]? = some t → xs[j]? = some x → ArgFits Tryz.prog t x) : DataSem Tryz.prog 3 xs (.v (.bool true)) := by
  rw [params] at hl h
  match xs, hl with
  | [], _ =>
    exact Zrk _ _ Z107


set_option maxRecDepth 100000 in
theorem contract (H : Type) (enc : TypeId × Value → H) (W : World) (base : Nat) (args : Array Value) (ds gs : List (DataW H)) (before : List MemPlace)
    (hval : ∀ (j : Nat) t v, Tryz.f3.params[j]? = some t → args[j]? = some v → Value.okWide Tryz.prog W .any base t v)
    (hW : DataW.Whole enc Tryz.prog Tryz.f3.params.toList Rows.countersKnownSpec.vars false W args.toList ds gs before) (hL : laidMet Tryz.prog Rows.countersKnownRow.laid W) :
    Calls Tryz.prog 3 args W fun e W' => ∃ v, e = .returned v ∧ Rows.countersKnownSpec.post enc Tryz.prog Tryz.f3 false true false false W args v W' :=
  Z19q laidOut (tb := 4) (by kernel_rfl) (by kernel_rfl) rfl (ts := okTypes) (by kernel_rfl) params_in params_read
    spec_eq data hval hW (gl_row hL rfl rfl rfl rfl rfl)

/-- A WORLD FOR THE WITNESS: the settled one, the variables holding what their initialisers lay. -/
noncomputable def Z14w (os : Os) : World :=
  let w0 := World.holding Tryz.prog os ⟨#[], #[], []⟩
  let put (h : Array Obj) (g : Nat) (cs : Array Value) : Array Obj := h.modify g fun
    | .cells _ t frozen => .cells cs t frozen
    | o => o
  let tag (b : Bool) (n : Int) : Array Value := #[.int .u8 0, .bool b, .int .u32 n]
  let h1 := put w0.heap 4 (([128, 191, 160, 191, 128, 159, 144, 191, 128, 143] ++ List.replicate 22 0).map fun (z : Nat) => Value.int .u8 (z : Int)).toArray
  let h2 := put h1 3 (Pinned.utf8FirstZ.map fun (z : Nat) => Value.int .u8 (z : Int)).toArray
  let h3 := put (put (put (put h2 0 (tag true 16)) 1 (tag false 6)) 2 (tag false 22)) 5 (tag false 2)
  let h4 := put h3 6 #[.int .u32 12, .int .u32 22, .int .u32 26, .int .u32 30]
  { w0 with heap := h4 }
theorem Z1kb (os : Os) : laidMet Tryz.prog Rows.countersKnownRow.laid ((Z14w os).forCall (fun _ _ => 0) ⟨#[], #[], []⟩).memory :=
  laidMet_of_run' 8 (by kernel_rfl) (by kernel_rfl)
theorem reads (os : Os) {H : Type} (enc : TypeId × Value → H) : ∃ places, DataW.whole enc Tryz.prog ((Z14w os).forCall (fun _ _ => 0) ⟨#[], #[], []⟩).memory Tryz.f3.params.toList Rows.countersKnownSpec.vars false (#[] : Array Value).toList 8 = some ([], [], places) :=
  ⟨[], by kernel_rfl⟩

set_option maxRecDepth 100000 in
theorem lifted (os : Os) (started : os.Started) (H : Type) (enc : TypeId × Value → H) (F : Stop.Interp) :
    ReturnsInHanded {} Tryz.checked os 3 .any ((OpenSpec.ofChange Rows.countersKnownSpec).preRow enc Tryz.prog Tryz.f3 Rows.countersKnownRow.domain false Rows.countersKnownRow.laid) (((OpenSpec.ofChange Rows.countersKnownSpec).at F).post enc Tryz.prog Tryz.f3 false true false false) := by
  obtain ⟨places, hx⟩ := reads os enc
  refine returnsInHanded_of_row (C := Tryz.checked) (s := OpenSpec.ofChange Rows.countersKnownSpec) own started (by kernel_rfl) Tryz.func3
    (witness_row_at (enc := enc) (C := Tryz.checked) false (Z14w os) #[] rfl (by kernel_rfl) (by kernel_rfl) (by kernel_rfl)
      (OpenSpec.preRow_of_cond 8 hx (by kernel_rfl) (fun k hk => by cases hk) (by kernel_rfl) (Z1kb os))) ?_
  intro W base args ds gs before hval hW _ _ _ hL _ _
  exact contract H enc W base args ds gs before hval hW hL

theorem cl1 : (Rows.countersKnownRow.inPlace == Tryz.prog.inPlace 3) = true := by kernel_rfl
theorem cl2 : (Rows.countersKnownRow.unfollowed == Tryz.prog.unfollowed 3) = true := by kernel_rfl
theorem cl3 : (Rows.countersKnownRow.recurses == Tryz.prog.recurses 3) = true := by kernel_rfl
theorem cl4 : (Rows.countersKnownRow.named == Tryz.prog.varsNamed 3) = true := by kernel_rfl
theorem closed : joinedFacts Tryz.prog 3 Tryz.f3 (OpenSpec.ofChange Rows.countersKnownSpec).bare Rows.countersKnownRow = true := by
  unfold joinedFacts
  rw [cl1, cl2, cl3, cl4]
  kernel_rfl
theorem inst : Func.isInstance Tryz.prog Tryz.f3 Rows.countersKnownRow.origin Rows.countersKnownRow.targs := of_decide_eq_true (by kernel_rfl)
theorem said : Rows.CountersKnownSaid :=
  OpenClaim.holds_of_cond 3 Tryz.f3 rfl rfl rfl rfl rfl rfl rfl ⟨rfl, rfl, rfl, rfl, rfl⟩ rfl rfl rfl rfl rfl (by kernel_rfl) Tryz.func3 closed
    inst (by unfold Func.isWrapper; first | (rw [if_pos (by decide +kernel)]; kernel_rfl) | (rw [if_neg (by decide +kernel)]; exact ⟨rfl, rfl⟩))
    (fun os started H enc _ F => by rw [OpenClaim.pre_eq_preRow]; exact lifted os started H enc F)

theorem plain (f : FuncId) (fn : Func) (hf : Tryz.pinned.checked.prog.funcNamed "vidimus/vidimuslaw24.CountersKnown" = some f) (hfn : Tryz.pinned.checked.prog.funcs[f]? = some fn) :
    true = Tryz.pinned.checked.prog.looks [] ∧ ∀ (j : Nat) t, fn.params[j]? = some t → Tryz.pinned.checked.prog.wantsStandIn t = false := by
  obtain rfl : f = 3 := Option.some.inj ((show Tryz.prog.funcNamed "vidimus/vidimuslaw24.CountersKnown" = some 3 by kernel_rfl).symm.trans hf) |>.symm
  obtain rfl : fn = Tryz.f3 := (Option.some.inj (Tryz.func3.symm.trans hfn)).symm
  refine ⟨by kernel_rfl, fun j t ht => ?_⟩
  have e : Tryz.f3.params = #[] := by kernel_rfl
  rw [e] at ht
  simp at ht

theorem card : Rows.CountersKnownCardSaid :=
  Claim7.holds_tied_plain_at .later [] _ _ _ _ said (fun _ h => by cases h) (by kernel_rfl) (fun _ h => by cases h) countersKnown_row_tie rfl ⟨rfl, rfl⟩ (by kernel_rfl) rfl plain (by kernel_rfl)
#print axioms card
end Go.Proofs.YthakkigkdhaihaaGreatDoor.countersKnown
