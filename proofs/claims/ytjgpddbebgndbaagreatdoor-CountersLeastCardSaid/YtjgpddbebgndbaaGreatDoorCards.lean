/-
  DERIVED. GIVEN WITH THE SEED: THE CARDS: each row of YtjgpddbebgndbaaGreatDoorRows.lean that lists a variable, with what it lists TIED to the program's text (the seventh form; the later family's looks); each row that meets fmt, with fmt's text TOLD by the authors' own Lean function (tested against real Go, not proved from fmt's source: count such statements apart). THE CARD IS WHAT COUNTS. Prove the row's statement (the work); the ties are given (YtjgpddbebgndbaaGreatDoorTie.lean); close each card by the builder's one call (the guide's Derived/Test/ToyasCard.lean, 'card_holds'). Laid BY PROGRAM, IN A SANDBOX (cutbox-door.mjs). By AI agents, Wed Nov 11 2026. No macro, syntax, notation, axiom, sorry.
-/
import Derived.Test.YtjgpddbebgndbaaGreatDoorRows
import GoSem.ClaimSeven
namespace Go.Proofs.YtjgpddbebgndbaaGreatDoor
namespace Rows

/-- THE TIED CARD OF 'vidimuslaw24.CountersStart'. -/
def countersStartCard : Claim7 := { stood := { row := countersStartRow, standIns := [], harness := (true, "793ada1567785c1e86555537964ab2f9fc1d151cbb3c082cbbb54a8c38898087"), looks := true }, kinds := [], alts := [], laidByText := true, laidKinds := [.data, .data, .data, .data, .data, .widerDeep, .pinned], laidTests := true, laidLooks := .later }
def CountersStartCardSaid : Prop := Claim7.holds Tryz.pinned (.plain (OpenSpec.ofChange countersStartSpec)) countersStartCard

/-- THE TIED CARD OF 'vidimuslaw24.CountersAll'. -/
def countersAllCard : Claim7 := { stood := { row := countersAllRow, standIns := [], harness := (true, "793ada1567785c1e86555537964ab2f9fc1d151cbb3c082cbbb54a8c38898087"), looks := true }, kinds := [], alts := [], laidByText := true, laidKinds := [.data, .data, .data, .data, .data, .widerDeep, .pinned], laidTests := true, laidLooks := .later }
def CountersAllCardSaid : Prop := Claim7.holds Tryz.pinned (.plain (OpenSpec.ofChange countersAllSpec)) countersAllCard

/-- THE TIED CARD OF 'vidimuslaw24.CountersLeast'. -/
def countersLeastCard : Claim7 := { stood := { row := countersLeastRow, standIns := [], harness := (true, "793ada1567785c1e86555537964ab2f9fc1d151cbb3c082cbbb54a8c38898087"), looks := true }, kinds := [], alts := [], laidByText := true, laidKinds := [.data, .data, .data, .data, .data, .widerDeep, .pinned], laidTests := true, laidLooks := .later }
def CountersLeastCardSaid : Prop := Claim7.holds Tryz.pinned (.plain (OpenSpec.ofChange countersLeastSpec)) countersLeastCard

/-- THE TIED CARD OF 'vidimuslaw24.CountersZero'. -/
def countersZeroCard : Claim7 := { stood := { row := countersZeroRow, standIns := [], harness := (true, "793ada1567785c1e86555537964ab2f9fc1d151cbb3c082cbbb54a8c38898087"), looks := true }, kinds := [], alts := [], laidByText := true, laidKinds := [.data, .data, .data, .data, .data, .widerDeep, .pinned], laidTests := true, laidLooks := .later }
def CountersZeroCardSaid : Prop := Claim7.holds Tryz.pinned (.plain (OpenSpec.ofChange countersZeroSpec)) countersZeroCard

/-- THE TIED CARD OF 'vidimuslaw24.CountersKnown'. -/
def countersKnownCard : Claim7 := { stood := { row := countersKnownRow, standIns := [], harness := (true, "793ada1567785c1e86555537964ab2f9fc1d151cbb3c082cbbb54a8c38898087"), looks := true }, kinds := [], alts := [], laidByText := true, laidKinds := [.data, .data, .data, .data, .data, .widerDeep, .pinned], laidTests := true, laidLooks := .later }
def CountersKnownCardSaid : Prop := Claim7.holds Tryz.pinned (.plain (OpenSpec.ofChange countersKnownSpec)) countersKnownCard

/-- THE TIED CARD OF 'vidimuslaw24.CountersNext'. -/
def countersNextCard : Claim7 := { stood := { row := countersNextRow, standIns := [], harness := (true, "793ada1567785c1e86555537964ab2f9fc1d151cbb3c082cbbb54a8c38898087"), looks := true }, kinds := [], alts := [], laidByText := true, laidKinds := [.data, .data, .data, .data, .data, .widerDeep, .pinned], laidTests := true, laidLooks := .later }
def CountersNextCardSaid : Prop := Claim7.holds Tryz.pinned (.plain (OpenSpec.ofChange countersNextSpec)) countersNextCard

/-- THE TIED CARD OF 'vidimuslaw24.CountersErrors'. -/
def countersErrorsCard : Claim7 := { stood := { row := countersErrorsRow, standIns := [], harness := (true, "793ada1567785c1e86555537964ab2f9fc1d151cbb3c082cbbb54a8c38898087"), looks := true }, kinds := [], alts := [], laidByText := true, laidKinds := [.data, .data, .data, .data, .data, .widerDeep, .pinned], laidTests := true, laidLooks := .later }
def CountersErrorsCardSaid : Prop := Claim7.holds Tryz.pinned (.plain (OpenSpec.ofChange countersErrorsSpec)) countersErrorsCard

/-- THE SECOND FORM's CARD OF 'vidimuslaw24.CountersStart'. -/
def countersStartUptoCard : Claim7 := { stood := { row := countersStartUptoRow, standIns := [], harness := (true, "793ada1567785c1e86555537964ab2f9fc1d151cbb3c082cbbb54a8c38898087"), looks := true }, kinds := [], alts := [], laidByText := true, laidKinds := [.data, .data, .data, .data, .data, .widerDeep, .pinned], laidTests := true, laidLooks := .later }
def CountersStartUptoCardSaid : Prop := Claim7.holds Tryz.pinned (.plain (OpenSpec.upto countersStartSpec)) countersStartUptoCard

/-- THE SECOND FORM's CARD OF 'vidimuslaw24.CountersAll'. -/
def countersAllUptoCard : Claim7 := { stood := { row := countersAllUptoRow, standIns := [], harness := (true, "793ada1567785c1e86555537964ab2f9fc1d151cbb3c082cbbb54a8c38898087"), looks := true }, kinds := [], alts := [], laidByText := true, laidKinds := [.data, .data, .data, .data, .data, .widerDeep, .pinned], laidTests := true, laidLooks := .later }
def CountersAllUptoCardSaid : Prop := Claim7.holds Tryz.pinned (.plain (OpenSpec.upto countersAllSpec)) countersAllUptoCard

/-- THE SECOND FORM's CARD OF 'vidimuslaw24.CountersLeast'. -/
def countersLeastUptoCard : Claim7 := { stood := { row := countersLeastUptoRow, standIns := [], harness := (true, "793ada1567785c1e86555537964ab2f9fc1d151cbb3c082cbbb54a8c38898087"), looks := true }, kinds := [], alts := [], laidByText := true, laidKinds := [.data, .data, .data, .data, .data, .widerDeep, .pinned], laidTests := true, laidLooks := .later }
def CountersLeastUptoCardSaid : Prop := Claim7.holds Tryz.pinned (.plain (OpenSpec.upto countersLeastSpec)) countersLeastUptoCard

/-- THE SECOND FORM's CARD OF 'vidimuslaw24.CountersZero'. -/
def countersZeroUptoCard : Claim7 := { stood := { row := countersZeroUptoRow, standIns := [], harness := (true, "793ada1567785c1e86555537964ab2f9fc1d151cbb3c082cbbb54a8c38898087"), looks := true }, kinds := [], alts := [], laidByText := true, laidKinds := [.data, .data, .data, .data, .data, .widerDeep, .pinned], laidTests := true, laidLooks := .later }
def CountersZeroUptoCardSaid : Prop := Claim7.holds Tryz.pinned (.plain (OpenSpec.upto countersZeroSpec)) countersZeroUptoCard

/-- THE SECOND FORM's CARD OF 'vidimuslaw24.CountersKnown'. -/
def countersKnownUptoCard : Claim7 := { stood := { row := countersKnownUptoRow, standIns := [], harness := (true, "793ada1567785c1e86555537964ab2f9fc1d151cbb3c082cbbb54a8c38898087"), looks := true }, kinds := [], alts := [], laidByText := true, laidKinds := [.data, .data, .data, .data, .data, .widerDeep, .pinned], laidTests := true, laidLooks := .later }
def CountersKnownUptoCardSaid : Prop := Claim7.holds Tryz.pinned (.plain (OpenSpec.upto countersKnownSpec)) countersKnownUptoCard

/-- THE SECOND FORM's CARD OF 'vidimuslaw24.CountersNext'. -/
def countersNextUptoCard : Claim7 := { stood := { row := countersNextUptoRow, standIns := [], harness := (true, "793ada1567785c1e86555537964ab2f9fc1d151cbb3c082cbbb54a8c38898087"), looks := true }, kinds := [], alts := [], laidByText := true, laidKinds := [.data, .data, .data, .data, .data, .widerDeep, .pinned], laidTests := true, laidLooks := .later }
def CountersNextUptoCardSaid : Prop := Claim7.holds Tryz.pinned (.plain (OpenSpec.upto countersNextSpec)) countersNextUptoCard

/-- THE SECOND FORM's CARD OF 'vidimuslaw24.CountersErrors'. -/
def countersErrorsUptoCard : Claim7 := { stood := { row := countersErrorsUptoRow, standIns := [], harness := (true, "793ada1567785c1e86555537964ab2f9fc1d151cbb3c082cbbb54a8c38898087"), looks := true }, kinds := [], alts := [], laidByText := true, laidKinds := [.data, .data, .data, .data, .data, .widerDeep, .pinned], laidTests := true, laidLooks := .later }
def CountersErrorsUptoCardSaid : Prop := Claim7.holds Tryz.pinned (.plain (OpenSpec.upto countersErrorsSpec)) countersErrorsUptoCard
end Rows
end Go.Proofs.YtjgpddbebgndbaaGreatDoor
