/-
  DERIVED. GIVEN WITH THE SEED: THE CARDS: each row of YtilgfaangfbndaaDoorRows.lean that lists a variable, with what it lists TIED to the program's text (the seventh form; the later family's looks); each row that meets fmt, with fmt's text TOLD by the authors' own Lean function (tested against real Go, not proved from fmt's source: count such statements apart). THE CARD IS WHAT COUNTS. Prove the row's statement (the work); the ties are given (YtilgfaangfbndaaDoorTie.lean); close each card by the builder's one call (the guide's Derived/Test/ToyasCard.lean, 'card_holds'). Laid BY PROGRAM, IN A SANDBOX (cutbox-door.mjs). By AI agents, Wed Nov 11 2026. No macro, syntax, notation, axiom, sorry.
-/
import Derived.Test.YtilgfaangfbndaaDoorRows
import GoSem.ClaimSeven
namespace Go.Proofs.YtilgfaangfbndaaDoor
namespace Rows

/-- THE TIED CARD OF 'vidimuslaw05.ScalarsInts'. -/
def scalarsIntsCard : Claim7 := { stood := { row := scalarsIntsRow, standIns := [], harness := (true, "d9a68b2e838fd70007cc623fff05a1dfb9398d96ffb8650de811bbcd0944ccbe"), looks := false }, kinds := [], alts := [], laidByText := true, laidKinds := [.data, .pinned], laidTests := true, laidLooks := .later }
def ScalarsIntsCardSaid : Prop := Claim7.holds Tryd.pinned (.plain (OpenSpec.ofChange scalarsIntsSpec)) scalarsIntsCard

/-- THE TIED CARD OF 'vidimuslaw05.ScalarsGet'. -/
def scalarsGetCard : Claim7 := { stood := { row := scalarsGetRow, standIns := [], harness := (true, "d9a68b2e838fd70007cc623fff05a1dfb9398d96ffb8650de811bbcd0944ccbe"), looks := false }, kinds := [], alts := [], laidByText := true, laidKinds := [.data, .pinned], laidTests := true, laidLooks := .later }
def ScalarsGetCardSaid : Prop := Claim7.holds Tryd.pinned (.plain (OpenSpec.ofChange scalarsGetSpec)) scalarsGetCard

/-- THE TIED CARD OF 'vidimuslaw05.ScalarsKnown'. -/
def scalarsKnownCard : Claim7 := { stood := { row := scalarsKnownRow, standIns := [], harness := (true, "d9a68b2e838fd70007cc623fff05a1dfb9398d96ffb8650de811bbcd0944ccbe"), looks := false }, kinds := [], alts := [], laidByText := true, laidKinds := [.data, .pinned], laidTests := true, laidLooks := .later }
def ScalarsKnownCardSaid : Prop := Claim7.holds Tryd.pinned (.plain (OpenSpec.ofChange scalarsKnownSpec)) scalarsKnownCard

/-- THE TIED CARD OF 'vidimuslaw05.ScalarsNats'. -/
def scalarsNatsCard : Claim7 := { stood := { row := scalarsNatsRow, standIns := [], harness := (true, "d9a68b2e838fd70007cc623fff05a1dfb9398d96ffb8650de811bbcd0944ccbe"), looks := false }, kinds := [], alts := [], laidByText := true, laidKinds := [.data, .pinned], laidTests := true, laidLooks := .later }
def ScalarsNatsCardSaid : Prop := Claim7.holds Tryd.pinned (.plain (OpenSpec.ofChange scalarsNatsSpec)) scalarsNatsCard

/-- THE TIED CARD OF 'vidimuslaw05.ScalarsErrors'. -/
def scalarsErrorsCard : Claim7 := { stood := { row := scalarsErrorsRow, standIns := [], harness := (true, "d9a68b2e838fd70007cc623fff05a1dfb9398d96ffb8650de811bbcd0944ccbe"), looks := false }, kinds := [], alts := [], laidByText := true, laidKinds := [.data, .pinned], laidTests := true, laidLooks := .later }
def ScalarsErrorsCardSaid : Prop := Claim7.holds Tryd.pinned (.plain (OpenSpec.ofChange scalarsErrorsSpec)) scalarsErrorsCard

/-- THE TIED CARD OF 'vidimuslaw01.NatsSum'. -/
def natsSumCard : Claim7 := { stood := { row := natsSumRow, standIns := [], harness := (true, "d9a68b2e838fd70007cc623fff05a1dfb9398d96ffb8650de811bbcd0944ccbe"), looks := false }, kinds := [], alts := [], laidByText := true, laidKinds := [.data, .pinned], laidTests := true, laidLooks := .later }
def NatsSumCardSaid : Prop := Claim7.holds Tryd.pinned (.plain (OpenSpec.ofChange natsSumSpec)) natsSumCard

/-- THE TIED CARD OF 'vidimuslaw01.NatsProduct'. -/
def natsProductCard : Claim7 := { stood := { row := natsProductRow, standIns := [], harness := (true, "d9a68b2e838fd70007cc623fff05a1dfb9398d96ffb8650de811bbcd0944ccbe"), looks := false }, kinds := [], alts := [], laidByText := true, laidKinds := [.data, .pinned], laidTests := true, laidLooks := .later }
def NatsProductCardSaid : Prop := Claim7.holds Tryd.pinned (.plain (OpenSpec.ofChange natsProductSpec)) natsProductCard

/-- THE TIED CARD OF 'vidimuslaw01.NatsField'. -/
def natsFieldCard : Claim7 := { stood := { row := natsFieldRow, standIns := [], harness := (true, "d9a68b2e838fd70007cc623fff05a1dfb9398d96ffb8650de811bbcd0944ccbe"), looks := false }, kinds := [], alts := [], laidByText := true, laidKinds := [.data, .pinned], laidTests := true, laidLooks := .later }
def NatsFieldCardSaid : Prop := Claim7.holds Tryd.pinned (.plain (OpenSpec.ofChange natsFieldSpec)) natsFieldCard

/-- THE TIED CARD OF 'vidimuslaw01.NatsDivide'. -/
def natsDivideCard : Claim7 := { stood := { row := natsDivideRow, standIns := [], harness := (true, "d9a68b2e838fd70007cc623fff05a1dfb9398d96ffb8650de811bbcd0944ccbe"), looks := false }, kinds := [], alts := [], laidByText := true, laidKinds := [.data, .pinned], laidTests := true, laidLooks := .later }
def NatsDivideCardSaid : Prop := Claim7.holds Tryd.pinned (.plain (OpenSpec.ofChange natsDivideSpec)) natsDivideCard

/-- THE TIED CARD OF 'vidimuslaw01.NatsPower'. -/
def natsPowerCard : Claim7 := { stood := { row := natsPowerRow, standIns := [], harness := (true, "d9a68b2e838fd70007cc623fff05a1dfb9398d96ffb8650de811bbcd0944ccbe"), looks := false }, kinds := [], alts := [], laidByText := true, laidKinds := [.data, .pinned], laidTests := true, laidLooks := .later }
def NatsPowerCardSaid : Prop := Claim7.holds Tryd.pinned (.plain (OpenSpec.ofChange natsPowerSpec)) natsPowerCard

/-- THE TIED CARD OF 'vidimuslaw01.NatsOrder'. -/
def natsOrderCard : Claim7 := { stood := { row := natsOrderRow, standIns := [], harness := (true, "d9a68b2e838fd70007cc623fff05a1dfb9398d96ffb8650de811bbcd0944ccbe"), looks := false }, kinds := [], alts := [], laidByText := true, laidKinds := [.data, .pinned], laidTests := true, laidLooks := .later }
def NatsOrderCardSaid : Prop := Claim7.holds Tryd.pinned (.plain (OpenSpec.ofChange natsOrderSpec)) natsOrderCard

/-- THE TIED CARD OF 'vidimuslaw01.NatsText'. -/
def natsTextCard : Claim7 := { stood := { row := natsTextRow, standIns := [], harness := (true, "d9a68b2e838fd70007cc623fff05a1dfb9398d96ffb8650de811bbcd0944ccbe"), looks := false }, kinds := [], alts := [], laidByText := true, laidKinds := [.data, .pinned], laidTests := true, laidLooks := .later }
def NatsTextCardSaid : Prop := Claim7.holds Tryd.pinned (.plain (OpenSpec.ofChange natsTextSpec)) natsTextCard

/-- THE TIED CARD OF 'vidimuslaw01.NatsKnown'. -/
def natsKnownCard : Claim7 := { stood := { row := natsKnownRow, standIns := [], harness := (true, "d9a68b2e838fd70007cc623fff05a1dfb9398d96ffb8650de811bbcd0944ccbe"), looks := false }, kinds := [], alts := [], laidByText := true, laidKinds := [.data, .pinned], laidTests := true, laidLooks := .later }
def NatsKnownCardSaid : Prop := Claim7.holds Tryd.pinned (.plain (OpenSpec.ofChange natsKnownSpec)) natsKnownCard

/-- THE TIED CARD OF 'vidimuslaw01.NatsCheck'. -/
def natsCheckCard : Claim7 := { stood := { row := natsCheckRow, standIns := [], harness := (true, "d9a68b2e838fd70007cc623fff05a1dfb9398d96ffb8650de811bbcd0944ccbe"), looks := false }, kinds := [], alts := [], laidByText := true, laidKinds := [.data, .pinned], laidTests := true, laidLooks := .later }
def NatsCheckCardSaid : Prop := Claim7.holds Tryd.pinned (.plain (OpenSpec.ofChange natsCheckSpec)) natsCheckCard

/-- THE TIED CARD OF 'vidimuslaw01.NatsSmall'. -/
def natsSmallCard : Claim7 := { stood := { row := natsSmallRow, standIns := [], harness := (true, "d9a68b2e838fd70007cc623fff05a1dfb9398d96ffb8650de811bbcd0944ccbe"), looks := false }, kinds := [], alts := [], laidByText := true, laidKinds := [.data, .pinned], laidTests := true, laidLooks := .later }
def NatsSmallCardSaid : Prop := Claim7.holds Tryd.pinned (.plain (OpenSpec.ofChange natsSmallSpec)) natsSmallCard

/-- THE SECOND FORM's CARD OF 'vidimuslaw05.ScalarsInts'. -/
def scalarsIntsUptoCard : Claim7 := { stood := { row := scalarsIntsUptoRow, standIns := [], harness := (true, "d9a68b2e838fd70007cc623fff05a1dfb9398d96ffb8650de811bbcd0944ccbe"), looks := false }, kinds := [], alts := [], laidByText := true, laidKinds := [.data, .pinned], laidTests := true, laidLooks := .later }
def ScalarsIntsUptoCardSaid : Prop := Claim7.holds Tryd.pinned (.plain (OpenSpec.upto scalarsIntsSpec)) scalarsIntsUptoCard

/-- THE SECOND FORM's CARD OF 'vidimuslaw05.ScalarsGet'. -/
def scalarsGetUptoCard : Claim7 := { stood := { row := scalarsGetUptoRow, standIns := [], harness := (true, "d9a68b2e838fd70007cc623fff05a1dfb9398d96ffb8650de811bbcd0944ccbe"), looks := false }, kinds := [], alts := [], laidByText := true, laidKinds := [.data, .pinned], laidTests := true, laidLooks := .later }
def ScalarsGetUptoCardSaid : Prop := Claim7.holds Tryd.pinned (.plain (OpenSpec.upto scalarsGetSpec)) scalarsGetUptoCard

/-- THE SECOND FORM's CARD OF 'vidimuslaw05.ScalarsKnown'. -/
def scalarsKnownUptoCard : Claim7 := { stood := { row := scalarsKnownUptoRow, standIns := [], harness := (true, "d9a68b2e838fd70007cc623fff05a1dfb9398d96ffb8650de811bbcd0944ccbe"), looks := false }, kinds := [], alts := [], laidByText := true, laidKinds := [.data, .pinned], laidTests := true, laidLooks := .later }
def ScalarsKnownUptoCardSaid : Prop := Claim7.holds Tryd.pinned (.plain (OpenSpec.upto scalarsKnownSpec)) scalarsKnownUptoCard

/-- THE SECOND FORM's CARD OF 'vidimuslaw05.ScalarsNats'. -/
def scalarsNatsUptoCard : Claim7 := { stood := { row := scalarsNatsUptoRow, standIns := [], harness := (true, "d9a68b2e838fd70007cc623fff05a1dfb9398d96ffb8650de811bbcd0944ccbe"), looks := false }, kinds := [], alts := [], laidByText := true, laidKinds := [.data, .pinned], laidTests := true, laidLooks := .later }
def ScalarsNatsUptoCardSaid : Prop := Claim7.holds Tryd.pinned (.plain (OpenSpec.upto scalarsNatsSpec)) scalarsNatsUptoCard

/-- THE SECOND FORM's CARD OF 'vidimuslaw05.ScalarsErrors'. -/
def scalarsErrorsUptoCard : Claim7 := { stood := { row := scalarsErrorsUptoRow, standIns := [], harness := (true, "d9a68b2e838fd70007cc623fff05a1dfb9398d96ffb8650de811bbcd0944ccbe"), looks := false }, kinds := [], alts := [], laidByText := true, laidKinds := [.data, .pinned], laidTests := true, laidLooks := .later }
def ScalarsErrorsUptoCardSaid : Prop := Claim7.holds Tryd.pinned (.plain (OpenSpec.upto scalarsErrorsSpec)) scalarsErrorsUptoCard

/-- THE SECOND FORM's CARD OF 'vidimuslaw01.NatsSum'. -/
def natsSumUptoCard : Claim7 := { stood := { row := natsSumUptoRow, standIns := [], harness := (true, "d9a68b2e838fd70007cc623fff05a1dfb9398d96ffb8650de811bbcd0944ccbe"), looks := false }, kinds := [], alts := [], laidByText := true, laidKinds := [.data, .pinned], laidTests := true, laidLooks := .later }
def NatsSumUptoCardSaid : Prop := Claim7.holds Tryd.pinned (.plain (OpenSpec.upto natsSumSpec)) natsSumUptoCard

/-- THE SECOND FORM's CARD OF 'vidimuslaw01.NatsProduct'. -/
def natsProductUptoCard : Claim7 := { stood := { row := natsProductUptoRow, standIns := [], harness := (true, "d9a68b2e838fd70007cc623fff05a1dfb9398d96ffb8650de811bbcd0944ccbe"), looks := false }, kinds := [], alts := [], laidByText := true, laidKinds := [.data, .pinned], laidTests := true, laidLooks := .later }
def NatsProductUptoCardSaid : Prop := Claim7.holds Tryd.pinned (.plain (OpenSpec.upto natsProductSpec)) natsProductUptoCard

/-- THE SECOND FORM's CARD OF 'vidimuslaw01.NatsField'. -/
def natsFieldUptoCard : Claim7 := { stood := { row := natsFieldUptoRow, standIns := [], harness := (true, "d9a68b2e838fd70007cc623fff05a1dfb9398d96ffb8650de811bbcd0944ccbe"), looks := false }, kinds := [], alts := [], laidByText := true, laidKinds := [.data, .pinned], laidTests := true, laidLooks := .later }
def NatsFieldUptoCardSaid : Prop := Claim7.holds Tryd.pinned (.plain (OpenSpec.upto natsFieldSpec)) natsFieldUptoCard

/-- THE SECOND FORM's CARD OF 'vidimuslaw01.NatsDivide'. -/
def natsDivideUptoCard : Claim7 := { stood := { row := natsDivideUptoRow, standIns := [], harness := (true, "d9a68b2e838fd70007cc623fff05a1dfb9398d96ffb8650de811bbcd0944ccbe"), looks := false }, kinds := [], alts := [], laidByText := true, laidKinds := [.data, .pinned], laidTests := true, laidLooks := .later }
def NatsDivideUptoCardSaid : Prop := Claim7.holds Tryd.pinned (.plain (OpenSpec.upto natsDivideSpec)) natsDivideUptoCard

/-- THE SECOND FORM's CARD OF 'vidimuslaw01.NatsPower'. -/
def natsPowerUptoCard : Claim7 := { stood := { row := natsPowerUptoRow, standIns := [], harness := (true, "d9a68b2e838fd70007cc623fff05a1dfb9398d96ffb8650de811bbcd0944ccbe"), looks := false }, kinds := [], alts := [], laidByText := true, laidKinds := [.data, .pinned], laidTests := true, laidLooks := .later }
def NatsPowerUptoCardSaid : Prop := Claim7.holds Tryd.pinned (.plain (OpenSpec.upto natsPowerSpec)) natsPowerUptoCard

/-- THE SECOND FORM's CARD OF 'vidimuslaw01.NatsOrder'. -/
def natsOrderUptoCard : Claim7 := { stood := { row := natsOrderUptoRow, standIns := [], harness := (true, "d9a68b2e838fd70007cc623fff05a1dfb9398d96ffb8650de811bbcd0944ccbe"), looks := false }, kinds := [], alts := [], laidByText := true, laidKinds := [.data, .pinned], laidTests := true, laidLooks := .later }
def NatsOrderUptoCardSaid : Prop := Claim7.holds Tryd.pinned (.plain (OpenSpec.upto natsOrderSpec)) natsOrderUptoCard

/-- THE SECOND FORM's CARD OF 'vidimuslaw01.NatsText'. -/
def natsTextUptoCard : Claim7 := { stood := { row := natsTextUptoRow, standIns := [], harness := (true, "d9a68b2e838fd70007cc623fff05a1dfb9398d96ffb8650de811bbcd0944ccbe"), looks := false }, kinds := [], alts := [], laidByText := true, laidKinds := [.data, .pinned], laidTests := true, laidLooks := .later }
def NatsTextUptoCardSaid : Prop := Claim7.holds Tryd.pinned (.plain (OpenSpec.upto natsTextSpec)) natsTextUptoCard

/-- THE SECOND FORM's CARD OF 'vidimuslaw01.NatsKnown'. -/
def natsKnownUptoCard : Claim7 := { stood := { row := natsKnownUptoRow, standIns := [], harness := (true, "d9a68b2e838fd70007cc623fff05a1dfb9398d96ffb8650de811bbcd0944ccbe"), looks := false }, kinds := [], alts := [], laidByText := true, laidKinds := [.data, .pinned], laidTests := true, laidLooks := .later }
def NatsKnownUptoCardSaid : Prop := Claim7.holds Tryd.pinned (.plain (OpenSpec.upto natsKnownSpec)) natsKnownUptoCard

/-- THE SECOND FORM's CARD OF 'vidimuslaw01.NatsCheck'. -/
def natsCheckUptoCard : Claim7 := { stood := { row := natsCheckUptoRow, standIns := [], harness := (true, "d9a68b2e838fd70007cc623fff05a1dfb9398d96ffb8650de811bbcd0944ccbe"), looks := false }, kinds := [], alts := [], laidByText := true, laidKinds := [.data, .pinned], laidTests := true, laidLooks := .later }
def NatsCheckUptoCardSaid : Prop := Claim7.holds Tryd.pinned (.plain (OpenSpec.upto natsCheckSpec)) natsCheckUptoCard

/-- THE SECOND FORM's CARD OF 'vidimuslaw01.NatsSmall'. -/
def natsSmallUptoCard : Claim7 := { stood := { row := natsSmallUptoRow, standIns := [], harness := (true, "d9a68b2e838fd70007cc623fff05a1dfb9398d96ffb8650de811bbcd0944ccbe"), looks := false }, kinds := [], alts := [], laidByText := true, laidKinds := [.data, .pinned], laidTests := true, laidLooks := .later }
def NatsSmallUptoCardSaid : Prop := Claim7.holds Tryd.pinned (.plain (OpenSpec.upto natsSmallSpec)) natsSmallUptoCard
end Rows
end Go.Proofs.YtilgfaangfbndaaDoor
