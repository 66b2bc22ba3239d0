/-
  DERIVED. GIVEN WITH THE SEED: THE CARDS: each row of YtnghcoghbbapgaaGreatDoorRows.lean that lists a variable, with what it lists TIED to the program's text (the seventh form; the later family's looks); each row that meets fmt, with fmt's text TOLD by the authors' own Lean function (tested against real Go, not proved from fmt's source: count such statements apart). THE CARD IS WHAT COUNTS. Prove the row's statement (the work); the ties are given (YtnghcoghbbapgaaGreatDoorTie.lean); close each card by the builder's one call (the guide's Derived/Test/ToyasCard.lean, 'card_holds'). Laid BY PROGRAM, IN A SANDBOX (cutbox-door.mjs). By AI agents, Wed Nov 11 2026. No macro, syntax, notation, axiom, sorry.
-/
import Derived.Test.YtnghcoghbbapgaaGreatDoorRows
import GoSem.ClaimSeven
namespace Go.Proofs.YtnghcoghbbapgaaGreatDoor
namespace Rows

/-- THE TIED CARD OF 'vidimuslaw26.TreesFind'. -/
def treesFindCard : Claim7 := { stood := { row := treesFindRow, standIns := [], harness := (true, "4b27f68860ae5e53cb67d1c9b76ce437c67ed1de4b7e6637d2bea03572fe33e9"), looks := true }, kinds := [], alts := [], laidByText := true, laidKinds := [.data, .data, .data, .data, .data, .data, .data, .data, .widerDeep, .pinned], laidTests := true, laidLooks := .later }
def TreesFindCardSaid : Prop := Claim7.holds Tryz.pinned (.plain (OpenSpec.ofChange treesFindSpec)) treesFindCard

/-- THE TIED CARD OF 'vidimuslaw26.TreesViews'. -/
def treesViewsCard : Claim7 := { stood := { row := treesViewsRow, standIns := [], harness := (true, "4b27f68860ae5e53cb67d1c9b76ce437c67ed1de4b7e6637d2bea03572fe33e9"), looks := true }, kinds := [], alts := [], laidByText := true, laidKinds := [.data, .data, .data, .data, .data, .data, .data, .data, .widerDeep, .pinned], laidTests := true, laidLooks := .later }
def TreesViewsCardSaid : Prop := Claim7.holds Tryz.pinned (.plain (OpenSpec.ofChange treesViewsSpec)) treesViewsCard

/-- THE TIED CARD OF 'vidimuslaw26.TreesAdd'. -/
def treesAddCard : Claim7 := { stood := { row := treesAddRow, standIns := [], harness := (true, "4b27f68860ae5e53cb67d1c9b76ce437c67ed1de4b7e6637d2bea03572fe33e9"), looks := true }, kinds := [], alts := [], laidByText := true, laidKinds := [.data, .data, .data, .data, .data, .data, .data, .data, .widerDeep, .pinned], laidTests := true, laidLooks := .later }
def TreesAddCardSaid : Prop := Claim7.holds Tryz.pinned (.plain (OpenSpec.ofChange treesAddSpec)) treesAddCard

/-- THE TIED CARD OF 'vidimuslaw26.TreesDelete'. -/
def treesDeleteCard : Claim7 := { stood := { row := treesDeleteRow, standIns := [], harness := (true, "4b27f68860ae5e53cb67d1c9b76ce437c67ed1de4b7e6637d2bea03572fe33e9"), looks := true }, kinds := [], alts := [], laidByText := true, laidKinds := [.data, .data, .data, .data, .data, .data, .data, .data, .widerDeep, .pinned], laidTests := true, laidLooks := .later }
def TreesDeleteCardSaid : Prop := Claim7.holds Tryz.pinned (.plain (OpenSpec.ofChange treesDeleteSpec)) treesDeleteCard

/-- THE TIED CARD OF 'vidimuslaw26.TreesLines'. -/
def treesLinesCard : Claim7 := { stood := { row := treesLinesRow, standIns := [], harness := (true, "4b27f68860ae5e53cb67d1c9b76ce437c67ed1de4b7e6637d2bea03572fe33e9"), looks := true }, kinds := [], alts := [], laidByText := true, laidKinds := [.data, .data, .data, .data, .data, .data, .data, .data, .widerDeep, .pinned], laidTests := true, laidLooks := .later }
def TreesLinesCardSaid : Prop := Claim7.holds Tryz.pinned (.plain (OpenSpec.ofChange treesLinesSpec)) treesLinesCard

/-- THE TIED CARD OF 'vidimuslaw26.TreesText'. -/
def treesTextCard : Claim7 := { stood := { row := treesTextRow, standIns := [], harness := (true, "4b27f68860ae5e53cb67d1c9b76ce437c67ed1de4b7e6637d2bea03572fe33e9"), looks := true }, kinds := [], alts := [], laidByText := true, laidKinds := [.data, .data, .data, .data, .data, .data, .data, .data, .widerDeep, .pinned], laidTests := true, laidLooks := .later }
def TreesTextCardSaid : Prop := Claim7.holds Tryz.pinned (.plain (OpenSpec.ofChange treesTextSpec)) treesTextCard

/-- THE TIED CARD OF 'vidimuslaw26.TreesKnown'. -/
def treesKnownCard : Claim7 := { stood := { row := treesKnownRow, standIns := [], harness := (true, "4b27f68860ae5e53cb67d1c9b76ce437c67ed1de4b7e6637d2bea03572fe33e9"), looks := true }, kinds := [], alts := [], laidByText := true, laidKinds := [.data, .data, .data, .data, .data, .data, .data, .data, .widerDeep, .pinned], laidTests := true, laidLooks := .later }
def TreesKnownCardSaid : Prop := Claim7.holds Tryz.pinned (.plain (OpenSpec.ofChange treesKnownSpec)) treesKnownCard

/-- THE SECOND FORM's CARD OF 'vidimuslaw26.TreesFind'. -/
def treesFindUptoCard : Claim7 := { stood := { row := treesFindUptoRow, standIns := [], harness := (true, "4b27f68860ae5e53cb67d1c9b76ce437c67ed1de4b7e6637d2bea03572fe33e9"), looks := true }, kinds := [], alts := [], laidByText := true, laidKinds := [.data, .data, .data, .data, .data, .data, .data, .data, .widerDeep, .pinned], laidTests := true, laidLooks := .later }
def TreesFindUptoCardSaid : Prop := Claim7.holds Tryz.pinned (.plain (OpenSpec.upto treesFindSpec)) treesFindUptoCard

/-- THE SECOND FORM's CARD OF 'vidimuslaw26.TreesViews'. -/
def treesViewsUptoCard : Claim7 := { stood := { row := treesViewsUptoRow, standIns := [], harness := (true, "4b27f68860ae5e53cb67d1c9b76ce437c67ed1de4b7e6637d2bea03572fe33e9"), looks := true }, kinds := [], alts := [], laidByText := true, laidKinds := [.data, .data, .data, .data, .data, .data, .data, .data, .widerDeep, .pinned], laidTests := true, laidLooks := .later }
def TreesViewsUptoCardSaid : Prop := Claim7.holds Tryz.pinned (.plain (OpenSpec.upto treesViewsSpec)) treesViewsUptoCard

/-- THE SECOND FORM's CARD OF 'vidimuslaw26.TreesAdd'. -/
def treesAddUptoCard : Claim7 := { stood := { row := treesAddUptoRow, standIns := [], harness := (true, "4b27f68860ae5e53cb67d1c9b76ce437c67ed1de4b7e6637d2bea03572fe33e9"), looks := true }, kinds := [], alts := [], laidByText := true, laidKinds := [.data, .data, .data, .data, .data, .data, .data, .data, .widerDeep, .pinned], laidTests := true, laidLooks := .later }
def TreesAddUptoCardSaid : Prop := Claim7.holds Tryz.pinned (.plain (OpenSpec.upto treesAddSpec)) treesAddUptoCard

/-- THE SECOND FORM's CARD OF 'vidimuslaw26.TreesDelete'. -/
def treesDeleteUptoCard : Claim7 := { stood := { row := treesDeleteUptoRow, standIns := [], harness := (true, "4b27f68860ae5e53cb67d1c9b76ce437c67ed1de4b7e6637d2bea03572fe33e9"), looks := true }, kinds := [], alts := [], laidByText := true, laidKinds := [.data, .data, .data, .data, .data, .data, .data, .data, .widerDeep, .pinned], laidTests := true, laidLooks := .later }
def TreesDeleteUptoCardSaid : Prop := Claim7.holds Tryz.pinned (.plain (OpenSpec.upto treesDeleteSpec)) treesDeleteUptoCard

/-- THE SECOND FORM's CARD OF 'vidimuslaw26.TreesLines'. -/
def treesLinesUptoCard : Claim7 := { stood := { row := treesLinesUptoRow, standIns := [], harness := (true, "4b27f68860ae5e53cb67d1c9b76ce437c67ed1de4b7e6637d2bea03572fe33e9"), looks := true }, kinds := [], alts := [], laidByText := true, laidKinds := [.data, .data, .data, .data, .data, .data, .data, .data, .widerDeep, .pinned], laidTests := true, laidLooks := .later }
def TreesLinesUptoCardSaid : Prop := Claim7.holds Tryz.pinned (.plain (OpenSpec.upto treesLinesSpec)) treesLinesUptoCard

/-- THE SECOND FORM's CARD OF 'vidimuslaw26.TreesText'. -/
def treesTextUptoCard : Claim7 := { stood := { row := treesTextUptoRow, standIns := [], harness := (true, "4b27f68860ae5e53cb67d1c9b76ce437c67ed1de4b7e6637d2bea03572fe33e9"), looks := true }, kinds := [], alts := [], laidByText := true, laidKinds := [.data, .data, .data, .data, .data, .data, .data, .data, .widerDeep, .pinned], laidTests := true, laidLooks := .later }
def TreesTextUptoCardSaid : Prop := Claim7.holds Tryz.pinned (.plain (OpenSpec.upto treesTextSpec)) treesTextUptoCard

/-- THE SECOND FORM's CARD OF 'vidimuslaw26.TreesKnown'. -/
def treesKnownUptoCard : Claim7 := { stood := { row := treesKnownUptoRow, standIns := [], harness := (true, "4b27f68860ae5e53cb67d1c9b76ce437c67ed1de4b7e6637d2bea03572fe33e9"), looks := true }, kinds := [], alts := [], laidByText := true, laidKinds := [.data, .data, .data, .data, .data, .data, .data, .data, .widerDeep, .pinned], laidTests := true, laidLooks := .later }
def TreesKnownUptoCardSaid : Prop := Claim7.holds Tryz.pinned (.plain (OpenSpec.upto treesKnownSpec)) treesKnownUptoCard
end Rows
end Go.Proofs.YtnghcoghbbapgaaGreatDoor
