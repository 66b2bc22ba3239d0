/-
  DERIVED. GIVEN WITH THE SEED: THE CARDS: each row of YthakkigkdhaihaaGreatDoorRows.lean that lists a variable, with what it lists TIED to the program's text (the seventh form; the later family's looks); each row that meets fmt, with fmt's text TOLD by the authors' own Lean function (tested against real Go, not proved from fmt's source: count such statements apart). THE CARD IS WHAT COUNTS. Prove the row's statement (the work); the ties are given (YthakkigkdhaihaaGreatDoorTie.lean); close each card by the builder's one call (the guide's Derived/Test/ToyasCard.lean, 'card_holds'). Laid BY PROGRAM, IN A SANDBOX (cutbox-door.mjs). By AI agents, Wed Nov 11 2026. No macro, syntax, notation, axiom, sorry.
-/
import Derived.Test.YthakkigkdhaihaaGreatDoorRows
import GoSem.ClaimSeven
namespace Go.Proofs.YthakkigkdhaihaaGreatDoor
namespace Rows

/-- THE TIED CARD OF 'vidimuslaw24.CountersKnown'. -/
def countersKnownCard : Claim7 := { stood := { row := countersKnownRow, standIns := [], harness := (true, "3e118246946a62dd61b0dc5958bd269c0f9599a92b51762c6a021aeff9b6fdc6"), looks := true }, kinds := [], alts := [], laidByText := true, laidKinds := [.data, .data, .data, .data, .data, .widerDeep, .pinned], laidTests := true, laidLooks := .later }
def CountersKnownCardSaid : Prop := Claim7.holds Tryz.pinned (.plain (OpenSpec.ofChange countersKnownSpec)) countersKnownCard

/-- THE TIED CARD OF 'vidimuslaw28.PtreesErrors'. -/
def ptreesErrorsCard : Claim7 := { stood := { row := ptreesErrorsRow, standIns := [], harness := (true, "3e118246946a62dd61b0dc5958bd269c0f9599a92b51762c6a021aeff9b6fdc6"), looks := true }, kinds := [], alts := [], laidByText := true, laidKinds := [.data, .data, .data, .data, .data, .widerDeep, .pinned], laidTests := true, laidLooks := .later }
def PtreesErrorsCardSaid : Prop := Claim7.holds Tryz.pinned (.plain (OpenSpec.ofChange ptreesErrorsSpec)) ptreesErrorsCard

/-- THE TIED CARD OF 'vidimuslaw28.PtreesLines'. -/
def ptreesLinesCard : Claim7 := { stood := { row := ptreesLinesRow, standIns := [], harness := (true, "3e118246946a62dd61b0dc5958bd269c0f9599a92b51762c6a021aeff9b6fdc6"), looks := true }, kinds := [], alts := [], laidByText := true, laidKinds := [.data, .data, .data, .data, .data, .widerDeep, .pinned], laidTests := true, laidLooks := .later }
def PtreesLinesCardSaid : Prop := Claim7.holds Tryz.pinned (.plain (OpenSpec.ofChange ptreesLinesSpec)) ptreesLinesCard

/-- THE TIED CARD OF 'vidimuslaw28.PtreesStart'. -/
def ptreesStartCard : Claim7 := { stood := { row := ptreesStartRow, standIns := [], harness := (true, "3e118246946a62dd61b0dc5958bd269c0f9599a92b51762c6a021aeff9b6fdc6"), looks := true }, kinds := [], alts := [], laidByText := true, laidKinds := [.data, .data, .data, .data, .data, .widerDeep, .pinned], laidTests := true, laidLooks := .later }
def PtreesStartCardSaid : Prop := Claim7.holds Tryz.pinned (.plain (OpenSpec.ofChange ptreesStartSpec)) ptreesStartCard

/-- THE SECOND FORM's CARD OF 'vidimuslaw24.CountersKnown'. -/
def countersKnownUptoCard : Claim7 := { stood := { row := countersKnownUptoRow, standIns := [], harness := (true, "3e118246946a62dd61b0dc5958bd269c0f9599a92b51762c6a021aeff9b6fdc6"), looks := true }, kinds := [], alts := [], laidByText := true, laidKinds := [.data, .data, .data, .data, .data, .widerDeep, .pinned], laidTests := true, laidLooks := .later }
def CountersKnownUptoCardSaid : Prop := Claim7.holds Tryz.pinned (.plain (OpenSpec.upto countersKnownSpec)) countersKnownUptoCard

/-- THE SECOND FORM's CARD OF 'vidimuslaw28.PtreesErrors'. -/
def ptreesErrorsUptoCard : Claim7 := { stood := { row := ptreesErrorsUptoRow, standIns := [], harness := (true, "3e118246946a62dd61b0dc5958bd269c0f9599a92b51762c6a021aeff9b6fdc6"), looks := true }, kinds := [], alts := [], laidByText := true, laidKinds := [.data, .data, .data, .data, .data, .widerDeep, .pinned], laidTests := true, laidLooks := .later }
def PtreesErrorsUptoCardSaid : Prop := Claim7.holds Tryz.pinned (.plain (OpenSpec.upto ptreesErrorsSpec)) ptreesErrorsUptoCard

/-- THE SECOND FORM's CARD OF 'vidimuslaw28.PtreesLines'. -/
def ptreesLinesUptoCard : Claim7 := { stood := { row := ptreesLinesUptoRow, standIns := [], harness := (true, "3e118246946a62dd61b0dc5958bd269c0f9599a92b51762c6a021aeff9b6fdc6"), looks := true }, kinds := [], alts := [], laidByText := true, laidKinds := [.data, .data, .data, .data, .data, .widerDeep, .pinned], laidTests := true, laidLooks := .later }
def PtreesLinesUptoCardSaid : Prop := Claim7.holds Tryz.pinned (.plain (OpenSpec.upto ptreesLinesSpec)) ptreesLinesUptoCard

/-- THE SECOND FORM's CARD OF 'vidimuslaw28.PtreesStart'. -/
def ptreesStartUptoCard : Claim7 := { stood := { row := ptreesStartUptoRow, standIns := [], harness := (true, "3e118246946a62dd61b0dc5958bd269c0f9599a92b51762c6a021aeff9b6fdc6"), looks := true }, kinds := [], alts := [], laidByText := true, laidKinds := [.data, .data, .data, .data, .data, .widerDeep, .pinned], laidTests := true, laidLooks := .later }
def PtreesStartUptoCardSaid : Prop := Claim7.holds Tryz.pinned (.plain (OpenSpec.upto ptreesStartSpec)) ptreesStartUptoCard
end Rows
end Go.Proofs.YthakkigkdhaihaaGreatDoor
