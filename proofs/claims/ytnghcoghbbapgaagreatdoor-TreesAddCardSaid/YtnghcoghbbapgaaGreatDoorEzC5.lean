/-
  The law vidimus/vidimuslaw26.TreesAdd of the given program returns true, and leaves its arguments as they are, whatever arguments of its types it is called with.
  Conditions: those that the given statement itself makes; none beside them.
-/
import Derived.Test.YtnghcoghbbapgaaGreatDoorEzX8
import Derived.Test.YtnghcoghbbapgaaGreatDoorCards
import Derived.Test.YtnghcoghbbapgaaGreatDoorTie
import Derived.Deep.DeepHandedRow
import Derived.Lib.LaidTab
import Derived.Lib.LaidIn
set_option linter.unusedVariables false
set_option linter.constructorNameAsVariable false
set_option maxRecDepth 100000
namespace Go.Proofs.YtnghcoghbbapgaaGreatDoor.treesAdd
open Go Go.RowKit Go.Ev Go.ChangeShapes Go.WideShapes Go.ChangeAt
theorem own : ownKnob Tryz.prog.godebug = none := by kernel_rfl
theorem laidOut : laidOutB Tryz.prog = true := by kernel_rfl
theorem params : Tryz.f5.params.toList = [24, 57] := by kernel_rfl
def okTypes : List TypeId := [24, 22, 78, 5, 57, 3, 35, 33, 32, 31, 55, 123, 118, 9, 4, 120, 121, 25]
theorem params_in : ∀ t, t ∈ Tryz.f5.params.toList → t ∈ okTypes := by
  rw [params]; decide
theorem params_read : ∀ t, t ∈ Tryz.f5.params.toList → Tryz.prog.readableRec t = true ∧ t < Tryz.prog.types.size := by
  have h : Tryz.f5.params.toList.all (fun t => Tryz.prog.readableRec t && decide (t < Tryz.prog.types.size)) = true := by kernel_rfl
  intro t ht
  have := List.all_eq_true.1 h t ht
  simp only [Bool.and_eq_true, decide_eq_true_eq] at this
  exact this
theorem spec_eq : ∀ (H : Type) (ds : List (DataW H)), ds.length = Tryz.f5.params.size → Rows.treesAddSpec.fn H ds = { results := [.lit (.bool true)], args := ds } := by
  intro H ds hl
  have h1 : Tryz.f5.params.size = 2 := by kernel_rfl
  rw [h1] at hl
  match ds, hl with
  | [_d0, _d1], _ => rfl

theorem data (xs : List D) (hl : xs.length = Tryz.f5.params.toList.length) (h : ∀ (j : Nat) t x, Tryz.f5.params.toList[j]? = some t → xs[j]? = some x → ArgFits Tryz.prog t x) : DataSem Tryz.prog 5 xs (.v (.bool true)) := by
  rw [params] at hl h
  match xs, hl with
  | [e0, e1], _ =>
    obtain ⟨rows, c, hr, rfl⟩ := arg_T (h 0 24 e0 rfl rfl)
    obtain ⟨x, hx, rfl⟩ := Z22t (h 1 57 e1 rfl rfl)
    exact Z1i8 _ _ (Z1vx hr _ hx)


set_option maxRecDepth 100000 in
theorem contract (H : Type) (enc : TypeId × Value → H) (W : World) (base : Nat) (args : Array Value) (ds gs : List (DataW H)) (before : List MemPlace)
    (hval : ∀ (j : Nat) t v, Tryz.f5.params[j]? = some t → args[j]? = some v → Value.okWide Tryz.prog W .any base t v)
    (hW : DataW.Whole enc Tryz.prog Tryz.f5.params.toList Rows.treesAddSpec.vars false W args.toList ds gs before) (hL : laidMet Tryz.prog Rows.treesAddRow.laid W) :
    Calls Tryz.prog 5 args W fun e W' => ∃ v, e = .returned v ∧ Rows.treesAddSpec.post enc Tryz.prog Tryz.f5 false true false false W args v W' :=
  Z16w laidOut (tb := 4) (by kernel_rfl) (by kernel_rfl) rfl (ts := okTypes) (by kernel_rfl) params_in params_read
    spec_eq data hval hW (gl_row hL rfl rfl rfl rfl rfl)

/-- A WORLD FOR THE WITNESS: the settled one, the variables holding what their initialisers lay. -/
noncomputable def Zgd (os : Os) : World :=
  let w0 := World.holding Tryz.prog os ⟨#[], #[], []⟩
  let put (h : Array Obj) (g : Nat) (cs : Array Value) : Array Obj := h.modify g fun
    | .cells _ t frozen => .cells cs t frozen
    | o => o
  let tag (b : Bool) (n : Int) : Array Value := #[.int .u8 0, .bool b, .int .u32 n]
  let h1 := put w0.heap 7 (([128, 191, 160, 191, 128, 159, 144, 191, 128, 143] ++ List.replicate 22 0).map fun (z : Nat) => Value.int .u8 (z : Int)).toArray
  let h2 := put h1 6 (Pinned.utf8FirstZ.map fun (z : Nat) => Value.int .u8 (z : Int)).toArray
  let h3 := put (put (put (put h2 0 (tag true 16)) 1 (tag false 6)) 2 (tag false 22)) 5 (tag false 2)
  let h4 := put h3 8 #[.int .u32 12, .int .u32 22, .int .u32 26, .int .u32 30]
  let h5 := put h4 9 (([0, 1, 28, 2, 29, 14, 24, 3, 30, 22, 20, 15, 25, 17, 4, 8, 31, 27, 13, 23, 21, 19, 16, 7, 26, 12, 18, 6, 11, 5, 10, 9] : List Nat).map fun (z : Nat) => Value.int .u8 (z : Int)).toArray
  let h6 := put h5 10 (([0, 1, 56, 2, 57, 49, 28, 3, 61, 58, 42, 50, 38, 29, 17, 4, 62, 47, 59, 36, 45, 43, 51, 22, 53, 39, 33, 30, 24, 18, 12, 5, 63, 55, 48, 27, 60, 41, 37, 16, 46, 35, 44, 21, 52, 32, 23, 11, 54, 26, 40, 15, 34, 20, 31, 10, 25, 14, 19, 9, 13, 8, 7, 6] : List Nat).map fun (z : Nat) => Value.int .u8 (z : Int)).toArray
  let h7 := put h6 4 ((List.range 20).map fun (z : Nat) => Value.int .u64 ((10 ^ z : Nat) : Int)).toArray
  { w0 with heap := h7 }
theorem Z1g5 (os : Os) : laidMet Tryz.prog Rows.treesAddRow.laid ((Zgd os).forCall (fun _ _ => 0) ⟨#[], #[.agg #[.slice none 0 0], .agg #[.int .i64 0, .int .u8 0, .int .u32 0, .int .u32 0, .int .u32 0, .int .u32 0, .int .u32 0, .int .u32 0, .int .u32 0, .int .u32 0, .int .u32 0, .int .u32 0, .int .u32 0, .int .u32 0, .int .u32 0, .int .u32 0, .int .u32 0, .int .u32 0, .slice none 0 0, .slice none 0 0]], []⟩).memory :=
  laidMet_of_run' 8 (by kernel_rfl) (by kernel_rfl)
theorem reads (os : Os) {H : Type} (enc : TypeId × Value → H) : ∃ places, DataW.whole enc Tryz.prog ((Zgd os).forCall (fun _ _ => 0) ⟨#[], #[.agg #[.slice none 0 0], .agg #[.int .i64 0, .int .u8 0, .int .u32 0, .int .u32 0, .int .u32 0, .int .u32 0, .int .u32 0, .int .u32 0, .int .u32 0, .int .u32 0, .int .u32 0, .int .u32 0, .int .u32 0, .int .u32 0, .int .u32 0, .int .u32 0, .int .u32 0, .int .u32 0, .slice none 0 0, .slice none 0 0]], []⟩).memory Tryz.f5.params.toList Rows.treesAddSpec.vars false (#[.agg #[.slice none 0 0], .agg #[.int .i64 0, .int .u8 0, .int .u32 0, .int .u32 0, .int .u32 0, .int .u32 0, .int .u32 0, .int .u32 0, .int .u32 0, .int .u32 0, .int .u32 0, .int .u32 0, .int .u32 0, .int .u32 0, .int .u32 0, .int .u32 0, .int .u32 0, .int .u32 0, .slice none 0 0, .slice none 0 0]] : Array Value).toList 8 = some ([.agg [.nil], .agg [.lit (.int .i64 0), .agg [.lit (.int .u8 0), .agg [.lit (.int .u32 0), .lit (.int .u32 0), .lit (.int .u32 0), .lit (.int .u32 0), .lit (.int .u32 0), .lit (.int .u32 0), .lit (.int .u32 0), .lit (.int .u32 0), .lit (.int .u32 0), .lit (.int .u32 0), .lit (.int .u32 0), .lit (.int .u32 0), .lit (.int .u32 0), .lit (.int .u32 0), .lit (.int .u32 0), .lit (.int .u32 0)]], .nil, .nil]], [], places) :=
  ⟨[], by kernel_rfl⟩

set_option maxRecDepth 100000 in
theorem lifted (os : Os) (started : os.Started) (H : Type) (enc : TypeId × Value → H) (F : Stop.Interp) :
    ReturnsInHanded {} Tryz.checked os 5 .any ((OpenSpec.ofChange Rows.treesAddSpec).preRow enc Tryz.prog Tryz.f5 Rows.treesAddRow.domain false Rows.treesAddRow.laid) (((OpenSpec.ofChange Rows.treesAddSpec).at F).post enc Tryz.prog Tryz.f5 false true false false) := by
  obtain ⟨places, hx⟩ := reads os enc
  refine returnsInHanded_of_row (C := Tryz.checked) (s := OpenSpec.ofChange Rows.treesAddSpec) own started (by kernel_rfl) Tryz.func5
    (witness_row_at (enc := enc) (C := Tryz.checked) false (Zgd os) #[.agg #[.slice none 0 0], .agg #[.int .i64 0, .int .u8 0, .int .u32 0, .int .u32 0, .int .u32 0, .int .u32 0, .int .u32 0, .int .u32 0, .int .u32 0, .int .u32 0, .int .u32 0, .int .u32 0, .int .u32 0, .int .u32 0, .int .u32 0, .int .u32 0, .int .u32 0, .int .u32 0, .slice none 0 0, .slice none 0 0]] rfl (by kernel_rfl) (by kernel_rfl) (by kernel_rfl)
      (OpenSpec.preRow_of_cond 8 hx (by kernel_rfl) (fun k hk => by cases hk) (by kernel_rfl) (Z1g5 os))) ?_
  intro W base args ds gs before hval hW _ _ _ hL _ _
  exact contract H enc W base args ds gs before hval hW hL

theorem cl1 : (Rows.treesAddRow.inPlace == Tryz.prog.inPlace 5) = true := by kernel_rfl
theorem cl2 : (Rows.treesAddRow.unfollowed == Tryz.prog.unfollowed 5) = true := by kernel_rfl
theorem cl3 : (Rows.treesAddRow.recurses == Tryz.prog.recurses 5) = true := by kernel_rfl
theorem cl4 : (Rows.treesAddRow.named == Tryz.prog.varsNamed 5) = true := by kernel_rfl
theorem closed : joinedFacts Tryz.prog 5 Tryz.f5 (OpenSpec.ofChange Rows.treesAddSpec).bare Rows.treesAddRow = true := by
  unfold joinedFacts
  rw [cl1, cl2, cl3, cl4]
  kernel_rfl
theorem inst : Func.isInstance Tryz.prog Tryz.f5 Rows.treesAddRow.origin Rows.treesAddRow.targs := of_decide_eq_true (by kernel_rfl)
theorem said : Rows.TreesAddSaid :=
  OpenClaim.holds_of_cond 5 Tryz.f5 rfl rfl rfl rfl rfl rfl rfl ⟨rfl, rfl, rfl, rfl, rfl⟩ rfl rfl rfl rfl rfl (by kernel_rfl) Tryz.func5 closed
    inst (by unfold Func.isWrapper; first | (rw [if_pos (by decide +kernel)]; kernel_rfl) | (rw [if_neg (by decide +kernel)]; exact ⟨rfl, rfl⟩))
    (fun os started H enc _ F => by rw [OpenClaim.pre_eq_preRow]; exact lifted os started H enc F)

theorem plain (f : FuncId) (fn : Func) (hf : Tryz.pinned.checked.prog.funcNamed "vidimus/vidimuslaw26.TreesAdd" = some f) (hfn : Tryz.pinned.checked.prog.funcs[f]? = some fn) :
    true = Tryz.pinned.checked.prog.looks [] ∧ ∀ (j : Nat) t, fn.params[j]? = some t → Tryz.pinned.checked.prog.wantsStandIn t = false := by
  obtain rfl : f = 5 := Option.some.inj ((show Tryz.prog.funcNamed "vidimus/vidimuslaw26.TreesAdd" = some 5 by kernel_rfl).symm.trans hf) |>.symm
  obtain rfl : fn = Tryz.f5 := (Option.some.inj (Tryz.func5.symm.trans hfn)).symm
  refine ⟨by kernel_rfl, fun j t ht => ?_⟩
  have h : Tryz.f5.params.toList.all (fun t => !Tryz.prog.wantsStandIn t) = true := by kernel_rfl
  have ht' : t ∈ Tryz.f5.params.toList := List.mem_of_getElem? (by simpa using ht)
  have := List.all_eq_true.1 h t ht'
  simp only [Bool.not_eq_true'] at this
  exact this

theorem card : Rows.TreesAddCardSaid :=
  Claim7.holds_tied_plain_at .later [] _ _ _ _ said (fun _ h => by cases h) (by kernel_rfl) (fun _ h => by cases h) treesAdd_row_tie rfl ⟨rfl, rfl⟩ (by kernel_rfl) rfl plain (by kernel_rfl)
#print axioms card
end Go.Proofs.YtnghcoghbbapgaaGreatDoor.treesAdd
