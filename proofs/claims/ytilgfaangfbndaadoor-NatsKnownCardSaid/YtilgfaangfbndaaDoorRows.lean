/-
  NARROWER THAN 'FOR EVERY INPUT', by the rows' own cells (each row's printed sentence says how): ScalarsInts: laid · ScalarsGet: laid · ScalarsKnown: laid · ScalarsNats: laid · ScalarsErrors: loops, laid · NatsSum: laid · NatsProduct: laid · NatsField: laid · NatsDivide: laid · NatsPower: laid · NatsOrder: laid · NatsText: laid · NatsKnown: laid · NatsCheck: laid · NatsSmall: laid.
  DERIVED. THE GIVEN ROWS OF THIS SEAT. 15 by the template 'for every input the law returns true; each argument reads behind the call as it read before'; 0 by the template 'total and deterministic' (their statements: YtilgfaangfbndaaDoorTotals.lean).
  GIVEN WITH THE SEED: the statements are not yours to turn. If you find one false, say at which input.
  Laid BY PROGRAM, IN A SANDBOX (cutbox-rows.mjs): the forced cells as the released guide's own fill.sh prints them over the translation 0c0fd81fbaeaf1d8… (all of the seat's roots in one cut). By AI agents, Wed Nov 11 2026. No macro, syntax, notation, axiom, sorry.
-/
import Derived.Test.YtilgfaangfbndaaDoorChecked
import GoSem.PinnedTables
import GoSem.Claim
import GoSem.ClaimJoined
import GoSem.ClaimMapViews
import Derived.JoinedTies
import Derived.KernelRfl
namespace Go.Proofs.YtilgfaangfbndaaDoor
/- THE CELL 'sum', in the pinned program and in every row, IS THE sha256 OF THE DUMP (.gsa) THAT YtilgfaangfbndaaDoorProg.lean LOADS. Nothing in Lean hashes anything: it is a label: what it is worth is what the hold of that sum in a sandbox is worth. -/
noncomputable def Tryd.pinned : Pinned := { name := "ytilgfaangfbndaadoor", sum := "0c0fd81fbaeaf1d80d6bb8e6b8fc16b240e56c557c9a8a3b09f2003ce136a270", checked := Tryd.checked }
namespace Rows
def none {H : Type} : Left H := { results := [], args := [] }

/- WHAT THE LISTED PACKAGE-LEVEL VARIABLES READ AS WHEN THE CALL BEGINS. Each datum BY PROGRAM (the guide's laid-datum.mjs) off the statement by which the dump's own 'gosem.cut.vars' lays the variable. In a bare row this is a premise. The card (YtilgfaangfbndaaDoorCards.lean) ties it to the program's text. -/
def laid_unicode_utf8_acceptRanges {H : Type} : DataW H := .agg [.agg [.lit (.int .u8 128), .lit (.int .u8 191)], .agg [.lit (.int .u8 160), .lit (.int .u8 191)], .agg [.lit (.int .u8 128), .lit (.int .u8 159)], .agg [.lit (.int .u8 144), .lit (.int .u8 191)], .agg [.lit (.int .u8 128), .lit (.int .u8 143)], .agg [.lit (.int .u8 0), .lit (.int .u8 0)], .agg [.lit (.int .u8 0), .lit (.int .u8 0)], .agg [.lit (.int .u8 0), .lit (.int .u8 0)], .agg [.lit (.int .u8 0), .lit (.int .u8 0)], .agg [.lit (.int .u8 0), .lit (.int .u8 0)], .agg [.lit (.int .u8 0), .lit (.int .u8 0)], .agg [.lit (.int .u8 0), .lit (.int .u8 0)], .agg [.lit (.int .u8 0), .lit (.int .u8 0)], .agg [.lit (.int .u8 0), .lit (.int .u8 0)], .agg [.lit (.int .u8 0), .lit (.int .u8 0)], .agg [.lit (.int .u8 0), .lit (.int .u8 0)]]
/-- One of Go's own tables, pinned by name: the form's constant. -/
def laid_unicode_utf8_first : DataW Unit := Go.Pinned.utf8First

/-- 'vidimuslaw05.ScalarsInts': WHATEVER THE INPUT: true; the input reads as it did. -/
def scalarsIntsSpec : ChangeSpec := { name := "scalarsInts", fn := fun _ => fun
  | [d] => { results := [.lit (.bool true)], args := [d] }
  | _ => none }
def scalarsIntsRow : OpenClaim := { program := "ytilgfaangfbndaadoor", sum := "0c0fd81fbaeaf1d80d6bb8e6b8fc16b240e56c557c9a8a3b09f2003ce136a270", func := "vidimus/vidimuslaw05.ScalarsInts", spec := "scalarsInts", unfollowed := true, recurses := true, named := ["unicode/utf8.first", "unicode/utf8.acceptRanges"], apart := false, laid := [("unicode/utf8.acceptRanges", laid_unicode_utf8_acceptRanges), ("unicode/utf8.first", laid_unicode_utf8_first)] }
def ScalarsIntsSaid : Prop := scalarsIntsRow.holds Tryd.pinned (OpenSpec.ofChange scalarsIntsSpec)

/-- ITS FALSE NEIGHBOUR: 'it returns false'. Refute it at one input. -/
def scalarsIntsWrong : ChangeSpec := { name := "scalarsInts", fn := fun _ => fun
  | [d] => { results := [.lit (.bool false)], args := [d] }
  | _ => none }
def ScalarsIntsWrongFalsely : Prop := scalarsIntsRow.holds Tryd.pinned (OpenSpec.ofChange scalarsIntsWrong)

/-- 'vidimuslaw05.ScalarsGet': WHATEVER THE INPUT: true; the input reads as it did. -/
def scalarsGetSpec : ChangeSpec := { name := "scalarsGet", fn := fun _ => fun
  | [d] => { results := [.lit (.bool true)], args := [d] }
  | _ => none }
def scalarsGetRow : OpenClaim := { program := "ytilgfaangfbndaadoor", sum := "0c0fd81fbaeaf1d80d6bb8e6b8fc16b240e56c557c9a8a3b09f2003ce136a270", func := "vidimus/vidimuslaw05.ScalarsGet", spec := "scalarsGet", unfollowed := true, recurses := true, named := ["unicode/utf8.first", "unicode/utf8.acceptRanges"], apart := false, laid := [("unicode/utf8.acceptRanges", laid_unicode_utf8_acceptRanges), ("unicode/utf8.first", laid_unicode_utf8_first)] }
def ScalarsGetSaid : Prop := scalarsGetRow.holds Tryd.pinned (OpenSpec.ofChange scalarsGetSpec)

/-- ITS FALSE NEIGHBOUR: 'it returns false'. Refute it at one input. -/
def scalarsGetWrong : ChangeSpec := { name := "scalarsGet", fn := fun _ => fun
  | [d] => { results := [.lit (.bool false)], args := [d] }
  | _ => none }
def ScalarsGetWrongFalsely : Prop := scalarsGetRow.holds Tryd.pinned (OpenSpec.ofChange scalarsGetWrong)

/-- 'vidimuslaw05.ScalarsKnown': WHATEVER THE INPUT: true; the input reads as it did. -/
def scalarsKnownSpec : ChangeSpec := { name := "scalarsKnown", fn := fun _ => fun
  | [] => { results := [.lit (.bool true)], args := [] }
  | _ => none }
def scalarsKnownRow : OpenClaim := { program := "ytilgfaangfbndaadoor", sum := "0c0fd81fbaeaf1d80d6bb8e6b8fc16b240e56c557c9a8a3b09f2003ce136a270", func := "vidimus/vidimuslaw05.ScalarsKnown", spec := "scalarsKnown", unfollowed := true, recurses := true, named := ["unicode/utf8.first", "unicode/utf8.acceptRanges"], apart := false, laid := [("unicode/utf8.acceptRanges", laid_unicode_utf8_acceptRanges), ("unicode/utf8.first", laid_unicode_utf8_first)] }
def ScalarsKnownSaid : Prop := scalarsKnownRow.holds Tryd.pinned (OpenSpec.ofChange scalarsKnownSpec)

/-- ITS FALSE NEIGHBOUR: 'it returns false'. Refute it at one input. -/
def scalarsKnownWrong : ChangeSpec := { name := "scalarsKnown", fn := fun _ => fun
  | [] => { results := [.lit (.bool false)], args := [] }
  | _ => none }
def ScalarsKnownWrongFalsely : Prop := scalarsKnownRow.holds Tryd.pinned (OpenSpec.ofChange scalarsKnownWrong)

/-- 'vidimuslaw05.ScalarsNats': WHATEVER THE INPUT: true; the input reads as it did. -/
def scalarsNatsSpec : ChangeSpec := { name := "scalarsNats", fn := fun _ => fun
  | [d] => { results := [.lit (.bool true)], args := [d] }
  | _ => none }
def scalarsNatsRow : OpenClaim := { program := "ytilgfaangfbndaadoor", sum := "0c0fd81fbaeaf1d80d6bb8e6b8fc16b240e56c557c9a8a3b09f2003ce136a270", func := "vidimus/vidimuslaw05.ScalarsNats", spec := "scalarsNats", unfollowed := true, recurses := true, named := ["unicode/utf8.first", "unicode/utf8.acceptRanges"], apart := false, laid := [("unicode/utf8.acceptRanges", laid_unicode_utf8_acceptRanges), ("unicode/utf8.first", laid_unicode_utf8_first)] }
def ScalarsNatsSaid : Prop := scalarsNatsRow.holds Tryd.pinned (OpenSpec.ofChange scalarsNatsSpec)

/-- ITS FALSE NEIGHBOUR: 'it returns false'. Refute it at one input. -/
def scalarsNatsWrong : ChangeSpec := { name := "scalarsNats", fn := fun _ => fun
  | [d] => { results := [.lit (.bool false)], args := [d] }
  | _ => none }
def ScalarsNatsWrongFalsely : Prop := scalarsNatsRow.holds Tryd.pinned (OpenSpec.ofChange scalarsNatsWrong)

/-- 'vidimuslaw05.ScalarsErrors': WHATEVER THE INPUT: true; the input reads as it did. -/
def scalarsErrorsSpec : ChangeSpec := { name := "scalarsErrors", fn := fun _ => fun
  | [d1, d2] => { results := [.lit (.bool true)], args := [d1, d2] }
  | _ => none }
def scalarsErrorsRow : OpenClaim := { program := "ytilgfaangfbndaadoor", sum := "0c0fd81fbaeaf1d80d6bb8e6b8fc16b240e56c557c9a8a3b09f2003ce136a270", func := "vidimus/vidimuslaw05.ScalarsErrors", spec := "scalarsErrors", unfollowed := true, recurses := true, named := ["unicode/utf8.first", "unicode/utf8.acceptRanges"], loops := true, apart := false, laid := [("unicode/utf8.acceptRanges", laid_unicode_utf8_acceptRanges), ("unicode/utf8.first", laid_unicode_utf8_first)] }
def ScalarsErrorsSaid : Prop := scalarsErrorsRow.holds Tryd.pinned (OpenSpec.ofChange scalarsErrorsSpec)

/-- ITS FALSE NEIGHBOUR: 'it returns false'. Refute it at one input. -/
def scalarsErrorsWrong : ChangeSpec := { name := "scalarsErrors", fn := fun _ => fun
  | [d1, d2] => { results := [.lit (.bool false)], args := [d1, d2] }
  | _ => none }
def ScalarsErrorsWrongFalsely : Prop := scalarsErrorsRow.holds Tryd.pinned (OpenSpec.ofChange scalarsErrorsWrong)

/-- 'vidimuslaw01.NatsSum': WHATEVER THE INPUT: true; the input reads as it did. -/
def natsSumSpec : ChangeSpec := { name := "natsSum", fn := fun _ => fun
  | [d1, d2] => { results := [.lit (.bool true)], args := [d1, d2] }
  | _ => none }
def natsSumRow : OpenClaim := { program := "ytilgfaangfbndaadoor", sum := "0c0fd81fbaeaf1d80d6bb8e6b8fc16b240e56c557c9a8a3b09f2003ce136a270", func := "vidimus/vidimuslaw01.NatsSum", spec := "natsSum", inPlace := ["internal/bytealg.Compare"], unfollowed := true, recurses := true, named := ["unicode/utf8.first", "unicode/utf8.acceptRanges"], apart := false, laid := [("unicode/utf8.acceptRanges", laid_unicode_utf8_acceptRanges), ("unicode/utf8.first", laid_unicode_utf8_first)] }
def NatsSumSaid : Prop := natsSumRow.holds Tryd.pinned (OpenSpec.ofChange natsSumSpec)

/-- ITS FALSE NEIGHBOUR: 'it returns false'. Refute it at one input. -/
def natsSumWrong : ChangeSpec := { name := "natsSum", fn := fun _ => fun
  | [d1, d2] => { results := [.lit (.bool false)], args := [d1, d2] }
  | _ => none }
def NatsSumWrongFalsely : Prop := natsSumRow.holds Tryd.pinned (OpenSpec.ofChange natsSumWrong)

/-- 'vidimuslaw01.NatsProduct': WHATEVER THE INPUT: true; the input reads as it did. -/
def natsProductSpec : ChangeSpec := { name := "natsProduct", fn := fun _ => fun
  | [d1, d2] => { results := [.lit (.bool true)], args := [d1, d2] }
  | _ => none }
def natsProductRow : OpenClaim := { program := "ytilgfaangfbndaadoor", sum := "0c0fd81fbaeaf1d80d6bb8e6b8fc16b240e56c557c9a8a3b09f2003ce136a270", func := "vidimus/vidimuslaw01.NatsProduct", spec := "natsProduct", inPlace := ["internal/bytealg.Compare"], unfollowed := true, recurses := true, named := ["unicode/utf8.first", "unicode/utf8.acceptRanges"], apart := false, laid := [("unicode/utf8.acceptRanges", laid_unicode_utf8_acceptRanges), ("unicode/utf8.first", laid_unicode_utf8_first)] }
def NatsProductSaid : Prop := natsProductRow.holds Tryd.pinned (OpenSpec.ofChange natsProductSpec)

/-- ITS FALSE NEIGHBOUR: 'it returns false'. Refute it at one input. -/
def natsProductWrong : ChangeSpec := { name := "natsProduct", fn := fun _ => fun
  | [d1, d2] => { results := [.lit (.bool false)], args := [d1, d2] }
  | _ => none }
def NatsProductWrongFalsely : Prop := natsProductRow.holds Tryd.pinned (OpenSpec.ofChange natsProductWrong)

/-- 'vidimuslaw01.NatsField': WHATEVER THE INPUT: true; the input reads as it did. -/
def natsFieldSpec : ChangeSpec := { name := "natsField", fn := fun _ => fun
  | [d1, d2, d3] => { results := [.lit (.bool true)], args := [d1, d2, d3] }
  | _ => none }
def natsFieldRow : OpenClaim := { program := "ytilgfaangfbndaadoor", sum := "0c0fd81fbaeaf1d80d6bb8e6b8fc16b240e56c557c9a8a3b09f2003ce136a270", func := "vidimus/vidimuslaw01.NatsField", spec := "natsField", inPlace := ["internal/bytealg.Compare"], unfollowed := true, recurses := true, named := ["unicode/utf8.first", "unicode/utf8.acceptRanges"], apart := false, laid := [("unicode/utf8.acceptRanges", laid_unicode_utf8_acceptRanges), ("unicode/utf8.first", laid_unicode_utf8_first)] }
def NatsFieldSaid : Prop := natsFieldRow.holds Tryd.pinned (OpenSpec.ofChange natsFieldSpec)

/-- ITS FALSE NEIGHBOUR: 'it returns false'. Refute it at one input. -/
def natsFieldWrong : ChangeSpec := { name := "natsField", fn := fun _ => fun
  | [d1, d2, d3] => { results := [.lit (.bool false)], args := [d1, d2, d3] }
  | _ => none }
def NatsFieldWrongFalsely : Prop := natsFieldRow.holds Tryd.pinned (OpenSpec.ofChange natsFieldWrong)

/-- 'vidimuslaw01.NatsDivide': WHATEVER THE INPUT: true; the input reads as it did. -/
def natsDivideSpec : ChangeSpec := { name := "natsDivide", fn := fun _ => fun
  | [d1, d2] => { results := [.lit (.bool true)], args := [d1, d2] }
  | _ => none }
def natsDivideRow : OpenClaim := { program := "ytilgfaangfbndaadoor", sum := "0c0fd81fbaeaf1d80d6bb8e6b8fc16b240e56c557c9a8a3b09f2003ce136a270", func := "vidimus/vidimuslaw01.NatsDivide", spec := "natsDivide", inPlace := ["internal/bytealg.Compare"], unfollowed := true, recurses := true, named := ["unicode/utf8.first", "unicode/utf8.acceptRanges"], apart := false, laid := [("unicode/utf8.acceptRanges", laid_unicode_utf8_acceptRanges), ("unicode/utf8.first", laid_unicode_utf8_first)] }
def NatsDivideSaid : Prop := natsDivideRow.holds Tryd.pinned (OpenSpec.ofChange natsDivideSpec)

/-- ITS FALSE NEIGHBOUR: 'it returns false'. Refute it at one input. -/
def natsDivideWrong : ChangeSpec := { name := "natsDivide", fn := fun _ => fun
  | [d1, d2] => { results := [.lit (.bool false)], args := [d1, d2] }
  | _ => none }
def NatsDivideWrongFalsely : Prop := natsDivideRow.holds Tryd.pinned (OpenSpec.ofChange natsDivideWrong)

/-- 'vidimuslaw01.NatsPower': WHATEVER THE INPUT: true; the input reads as it did. -/
def natsPowerSpec : ChangeSpec := { name := "natsPower", fn := fun _ => fun
  | [d1, d2] => { results := [.lit (.bool true)], args := [d1, d2] }
  | _ => none }
def natsPowerRow : OpenClaim := { program := "ytilgfaangfbndaadoor", sum := "0c0fd81fbaeaf1d80d6bb8e6b8fc16b240e56c557c9a8a3b09f2003ce136a270", func := "vidimus/vidimuslaw01.NatsPower", spec := "natsPower", inPlace := ["internal/bytealg.Compare"], unfollowed := true, recurses := true, named := ["unicode/utf8.first", "unicode/utf8.acceptRanges"], apart := false, laid := [("unicode/utf8.acceptRanges", laid_unicode_utf8_acceptRanges), ("unicode/utf8.first", laid_unicode_utf8_first)] }
def NatsPowerSaid : Prop := natsPowerRow.holds Tryd.pinned (OpenSpec.ofChange natsPowerSpec)

/-- ITS FALSE NEIGHBOUR: 'it returns false'. Refute it at one input. -/
def natsPowerWrong : ChangeSpec := { name := "natsPower", fn := fun _ => fun
  | [d1, d2] => { results := [.lit (.bool false)], args := [d1, d2] }
  | _ => none }
def NatsPowerWrongFalsely : Prop := natsPowerRow.holds Tryd.pinned (OpenSpec.ofChange natsPowerWrong)

/-- 'vidimuslaw01.NatsOrder': WHATEVER THE INPUT: true; the input reads as it did. -/
def natsOrderSpec : ChangeSpec := { name := "natsOrder", fn := fun _ => fun
  | [d1, d2] => { results := [.lit (.bool true)], args := [d1, d2] }
  | _ => none }
def natsOrderRow : OpenClaim := { program := "ytilgfaangfbndaadoor", sum := "0c0fd81fbaeaf1d80d6bb8e6b8fc16b240e56c557c9a8a3b09f2003ce136a270", func := "vidimus/vidimuslaw01.NatsOrder", spec := "natsOrder", inPlace := ["internal/bytealg.Compare"], unfollowed := true, recurses := true, named := ["unicode/utf8.first", "unicode/utf8.acceptRanges"], apart := false, laid := [("unicode/utf8.acceptRanges", laid_unicode_utf8_acceptRanges), ("unicode/utf8.first", laid_unicode_utf8_first)] }
def NatsOrderSaid : Prop := natsOrderRow.holds Tryd.pinned (OpenSpec.ofChange natsOrderSpec)

/-- ITS FALSE NEIGHBOUR: 'it returns false'. Refute it at one input. -/
def natsOrderWrong : ChangeSpec := { name := "natsOrder", fn := fun _ => fun
  | [d1, d2] => { results := [.lit (.bool false)], args := [d1, d2] }
  | _ => none }
def NatsOrderWrongFalsely : Prop := natsOrderRow.holds Tryd.pinned (OpenSpec.ofChange natsOrderWrong)

/-- 'vidimuslaw01.NatsText': WHATEVER THE INPUT: true; the input reads as it did. -/
def natsTextSpec : ChangeSpec := { name := "natsText", fn := fun _ => fun
  | [d1, d2] => { results := [.lit (.bool true)], args := [d1, d2] }
  | _ => none }
def natsTextRow : OpenClaim := { program := "ytilgfaangfbndaadoor", sum := "0c0fd81fbaeaf1d80d6bb8e6b8fc16b240e56c557c9a8a3b09f2003ce136a270", func := "vidimus/vidimuslaw01.NatsText", spec := "natsText", inPlace := ["internal/bytealg.Compare"], unfollowed := true, recurses := true, named := ["unicode/utf8.first", "unicode/utf8.acceptRanges"], apart := false, laid := [("unicode/utf8.acceptRanges", laid_unicode_utf8_acceptRanges), ("unicode/utf8.first", laid_unicode_utf8_first)] }
def NatsTextSaid : Prop := natsTextRow.holds Tryd.pinned (OpenSpec.ofChange natsTextSpec)

/-- ITS FALSE NEIGHBOUR: 'it returns false'. Refute it at one input. -/
def natsTextWrong : ChangeSpec := { name := "natsText", fn := fun _ => fun
  | [d1, d2] => { results := [.lit (.bool false)], args := [d1, d2] }
  | _ => none }
def NatsTextWrongFalsely : Prop := natsTextRow.holds Tryd.pinned (OpenSpec.ofChange natsTextWrong)

/-- 'vidimuslaw01.NatsKnown': WHATEVER THE INPUT: true; the input reads as it did. -/
def natsKnownSpec : ChangeSpec := { name := "natsKnown", fn := fun _ => fun
  | [] => { results := [.lit (.bool true)], args := [] }
  | _ => none }
def natsKnownRow : OpenClaim := { program := "ytilgfaangfbndaadoor", sum := "0c0fd81fbaeaf1d80d6bb8e6b8fc16b240e56c557c9a8a3b09f2003ce136a270", func := "vidimus/vidimuslaw01.NatsKnown", spec := "natsKnown", inPlace := ["internal/bytealg.Compare"], unfollowed := true, recurses := true, named := ["unicode/utf8.first", "unicode/utf8.acceptRanges"], apart := false, laid := [("unicode/utf8.acceptRanges", laid_unicode_utf8_acceptRanges), ("unicode/utf8.first", laid_unicode_utf8_first)] }
def NatsKnownSaid : Prop := natsKnownRow.holds Tryd.pinned (OpenSpec.ofChange natsKnownSpec)

/-- ITS FALSE NEIGHBOUR: 'it returns false'. Refute it at one input. -/
def natsKnownWrong : ChangeSpec := { name := "natsKnown", fn := fun _ => fun
  | [] => { results := [.lit (.bool false)], args := [] }
  | _ => none }
def NatsKnownWrongFalsely : Prop := natsKnownRow.holds Tryd.pinned (OpenSpec.ofChange natsKnownWrong)

/-- 'vidimuslaw01.NatsCheck': WHATEVER THE INPUT: true; the input reads as it did. -/
def natsCheckSpec : ChangeSpec := { name := "natsCheck", fn := fun _ => fun
  | [d1, d2, d3] => { results := [.lit (.bool true)], args := [d1, d2, d3] }
  | _ => none }
def natsCheckRow : OpenClaim := { program := "ytilgfaangfbndaadoor", sum := "0c0fd81fbaeaf1d80d6bb8e6b8fc16b240e56c557c9a8a3b09f2003ce136a270", func := "vidimus/vidimuslaw01.NatsCheck", spec := "natsCheck", inPlace := ["internal/bytealg.Compare"], unfollowed := true, recurses := true, named := ["unicode/utf8.first", "unicode/utf8.acceptRanges"], apart := false, laid := [("unicode/utf8.acceptRanges", laid_unicode_utf8_acceptRanges), ("unicode/utf8.first", laid_unicode_utf8_first)] }
def NatsCheckSaid : Prop := natsCheckRow.holds Tryd.pinned (OpenSpec.ofChange natsCheckSpec)

/-- ITS FALSE NEIGHBOUR: 'it returns false'. Refute it at one input. -/
def natsCheckWrong : ChangeSpec := { name := "natsCheck", fn := fun _ => fun
  | [d1, d2, d3] => { results := [.lit (.bool false)], args := [d1, d2, d3] }
  | _ => none }
def NatsCheckWrongFalsely : Prop := natsCheckRow.holds Tryd.pinned (OpenSpec.ofChange natsCheckWrong)

/-- 'vidimuslaw01.NatsSmall': WHATEVER THE INPUT: true; the input reads as it did. -/
def natsSmallSpec : ChangeSpec := { name := "natsSmall", fn := fun _ => fun
  | [d1, d2] => { results := [.lit (.bool true)], args := [d1, d2] }
  | _ => none }
def natsSmallRow : OpenClaim := { program := "ytilgfaangfbndaadoor", sum := "0c0fd81fbaeaf1d80d6bb8e6b8fc16b240e56c557c9a8a3b09f2003ce136a270", func := "vidimus/vidimuslaw01.NatsSmall", spec := "natsSmall", inPlace := ["internal/bytealg.Compare"], unfollowed := true, recurses := true, named := ["unicode/utf8.first", "unicode/utf8.acceptRanges"], apart := false, laid := [("unicode/utf8.acceptRanges", laid_unicode_utf8_acceptRanges), ("unicode/utf8.first", laid_unicode_utf8_first)] }
def NatsSmallSaid : Prop := natsSmallRow.holds Tryd.pinned (OpenSpec.ofChange natsSmallSpec)

/-- ITS FALSE NEIGHBOUR: 'it returns false'. Refute it at one input. -/
def natsSmallWrong : ChangeSpec := { name := "natsSmall", fn := fun _ => fun
  | [d1, d2] => { results := [.lit (.bool false)], args := [d1, d2] }
  | _ => none }
def NatsSmallWrongFalsely : Prop := natsSmallRow.holds Tryd.pinned (OpenSpec.ofChange natsSmallWrong)

/- THE SECOND FORM. 'bulk': how many values and letters a reading holds, each counted each time it is reached (what is shared counts as often as it is met; a slice's spare places count too). A statement '..UptoSaid' is the law's where the arguments, and the package variables that the reading takes, are together of bulk at most 1048576: NARROWER than '..Said'. Prove '..Said' where nothing that the law and all that it calls make is longer than what came in: it says more and counts as full. Else prove '..UptoSaid'. A law counts once. -/
mutual
def uptoBulk {H : Type} : DataW H → Nat
  | .lit (.string bytes) => bytes.length + 1
  | .lit _ => 1
  | .nil => 1
  | .ptr d => uptoBulk d + 1
  | .slice elems spare => uptoBulkAll elems + uptoBulkAll spare + 1
  | .agg parts => uptoBulkAll parts + 1
  | .iface _ d => uptoBulk d + 1
  | .map entries => uptoBulkEntries entries + 1
  | .held _ => 1
def uptoBulkAll {H : Type} : List (DataW H) → Nat
  | [] => 0
  | d :: r => uptoBulk d + uptoBulkAll r
def uptoBulkEntries {H : Type} : List (Lit × DataW H) → Nat
  | [] => 0
  | x :: r => uptoBulkEntry x + uptoBulkEntries r
def uptoBulkEntry {H : Type} : Lit × DataW H → Nat
  | (.string bytes, d) => bytes.length + uptoBulk d + 1
  | (_, d) => uptoBulk d + 1
 end
def uptoSmall : (H : Type) → List (DataW H) → Bool := fun _ ds => decide (uptoBulkAll ds ≤ 1048576)
def OpenSpec.upto (s : _root_.Go.ChangeSpec) : _root_.Go.OpenSpec := { _root_.Go.OpenSpec.ofChange s with cond := some uptoSmall }

/-- 'vidimuslaw05.ScalarsInts', WHERE WHAT IT READS IS OF BULK AT MOST 1048576: true; the input reads as it did. -/
def scalarsIntsUptoRow : OpenClaim := { program := "ytilgfaangfbndaadoor", sum := "0c0fd81fbaeaf1d80d6bb8e6b8fc16b240e56c557c9a8a3b09f2003ce136a270", func := "vidimus/vidimuslaw05.ScalarsInts", spec := "scalarsInts", unfollowed := true, recurses := true, named := ["unicode/utf8.first", "unicode/utf8.acceptRanges"], apart := false, laid := [("unicode/utf8.acceptRanges", laid_unicode_utf8_acceptRanges), ("unicode/utf8.first", laid_unicode_utf8_first)], narrowed := true }
def ScalarsIntsUptoSaid : Prop := scalarsIntsUptoRow.holds Tryd.pinned (OpenSpec.upto scalarsIntsSpec)

/-- 'vidimuslaw05.ScalarsGet', WHERE WHAT IT READS IS OF BULK AT MOST 1048576: true; the input reads as it did. -/
def scalarsGetUptoRow : OpenClaim := { program := "ytilgfaangfbndaadoor", sum := "0c0fd81fbaeaf1d80d6bb8e6b8fc16b240e56c557c9a8a3b09f2003ce136a270", func := "vidimus/vidimuslaw05.ScalarsGet", spec := "scalarsGet", unfollowed := true, recurses := true, named := ["unicode/utf8.first", "unicode/utf8.acceptRanges"], apart := false, laid := [("unicode/utf8.acceptRanges", laid_unicode_utf8_acceptRanges), ("unicode/utf8.first", laid_unicode_utf8_first)], narrowed := true }
def ScalarsGetUptoSaid : Prop := scalarsGetUptoRow.holds Tryd.pinned (OpenSpec.upto scalarsGetSpec)

/-- 'vidimuslaw05.ScalarsKnown', WHERE WHAT IT READS IS OF BULK AT MOST 1048576: true; the input reads as it did. -/
def scalarsKnownUptoRow : OpenClaim := { program := "ytilgfaangfbndaadoor", sum := "0c0fd81fbaeaf1d80d6bb8e6b8fc16b240e56c557c9a8a3b09f2003ce136a270", func := "vidimus/vidimuslaw05.ScalarsKnown", spec := "scalarsKnown", unfollowed := true, recurses := true, named := ["unicode/utf8.first", "unicode/utf8.acceptRanges"], apart := false, laid := [("unicode/utf8.acceptRanges", laid_unicode_utf8_acceptRanges), ("unicode/utf8.first", laid_unicode_utf8_first)], narrowed := true }
def ScalarsKnownUptoSaid : Prop := scalarsKnownUptoRow.holds Tryd.pinned (OpenSpec.upto scalarsKnownSpec)

/-- 'vidimuslaw05.ScalarsNats', WHERE WHAT IT READS IS OF BULK AT MOST 1048576: true; the input reads as it did. -/
def scalarsNatsUptoRow : OpenClaim := { program := "ytilgfaangfbndaadoor", sum := "0c0fd81fbaeaf1d80d6bb8e6b8fc16b240e56c557c9a8a3b09f2003ce136a270", func := "vidimus/vidimuslaw05.ScalarsNats", spec := "scalarsNats", unfollowed := true, recurses := true, named := ["unicode/utf8.first", "unicode/utf8.acceptRanges"], apart := false, laid := [("unicode/utf8.acceptRanges", laid_unicode_utf8_acceptRanges), ("unicode/utf8.first", laid_unicode_utf8_first)], narrowed := true }
def ScalarsNatsUptoSaid : Prop := scalarsNatsUptoRow.holds Tryd.pinned (OpenSpec.upto scalarsNatsSpec)

/-- 'vidimuslaw05.ScalarsErrors', WHERE WHAT IT READS IS OF BULK AT MOST 1048576: true; the input reads as it did. -/
def scalarsErrorsUptoRow : OpenClaim := { program := "ytilgfaangfbndaadoor", sum := "0c0fd81fbaeaf1d80d6bb8e6b8fc16b240e56c557c9a8a3b09f2003ce136a270", func := "vidimus/vidimuslaw05.ScalarsErrors", spec := "scalarsErrors", unfollowed := true, recurses := true, named := ["unicode/utf8.first", "unicode/utf8.acceptRanges"], loops := true, apart := false, laid := [("unicode/utf8.acceptRanges", laid_unicode_utf8_acceptRanges), ("unicode/utf8.first", laid_unicode_utf8_first)], narrowed := true }
def ScalarsErrorsUptoSaid : Prop := scalarsErrorsUptoRow.holds Tryd.pinned (OpenSpec.upto scalarsErrorsSpec)

/-- 'vidimuslaw01.NatsSum', WHERE WHAT IT READS IS OF BULK AT MOST 1048576: true; the input reads as it did. -/
def natsSumUptoRow : OpenClaim := { program := "ytilgfaangfbndaadoor", sum := "0c0fd81fbaeaf1d80d6bb8e6b8fc16b240e56c557c9a8a3b09f2003ce136a270", func := "vidimus/vidimuslaw01.NatsSum", spec := "natsSum", inPlace := ["internal/bytealg.Compare"], unfollowed := true, recurses := true, named := ["unicode/utf8.first", "unicode/utf8.acceptRanges"], apart := false, laid := [("unicode/utf8.acceptRanges", laid_unicode_utf8_acceptRanges), ("unicode/utf8.first", laid_unicode_utf8_first)], narrowed := true }
def NatsSumUptoSaid : Prop := natsSumUptoRow.holds Tryd.pinned (OpenSpec.upto natsSumSpec)

/-- 'vidimuslaw01.NatsProduct', WHERE WHAT IT READS IS OF BULK AT MOST 1048576: true; the input reads as it did. -/
def natsProductUptoRow : OpenClaim := { program := "ytilgfaangfbndaadoor", sum := "0c0fd81fbaeaf1d80d6bb8e6b8fc16b240e56c557c9a8a3b09f2003ce136a270", func := "vidimus/vidimuslaw01.NatsProduct", spec := "natsProduct", inPlace := ["internal/bytealg.Compare"], unfollowed := true, recurses := true, named := ["unicode/utf8.first", "unicode/utf8.acceptRanges"], apart := false, laid := [("unicode/utf8.acceptRanges", laid_unicode_utf8_acceptRanges), ("unicode/utf8.first", laid_unicode_utf8_first)], narrowed := true }
def NatsProductUptoSaid : Prop := natsProductUptoRow.holds Tryd.pinned (OpenSpec.upto natsProductSpec)

/-- 'vidimuslaw01.NatsField', WHERE WHAT IT READS IS OF BULK AT MOST 1048576: true; the input reads as it did. -/
def natsFieldUptoRow : OpenClaim := { program := "ytilgfaangfbndaadoor", sum := "0c0fd81fbaeaf1d80d6bb8e6b8fc16b240e56c557c9a8a3b09f2003ce136a270", func := "vidimus/vidimuslaw01.NatsField", spec := "natsField", inPlace := ["internal/bytealg.Compare"], unfollowed := true, recurses := true, named := ["unicode/utf8.first", "unicode/utf8.acceptRanges"], apart := false, laid := [("unicode/utf8.acceptRanges", laid_unicode_utf8_acceptRanges), ("unicode/utf8.first", laid_unicode_utf8_first)], narrowed := true }
def NatsFieldUptoSaid : Prop := natsFieldUptoRow.holds Tryd.pinned (OpenSpec.upto natsFieldSpec)

/-- 'vidimuslaw01.NatsDivide', WHERE WHAT IT READS IS OF BULK AT MOST 1048576: true; the input reads as it did. -/
def natsDivideUptoRow : OpenClaim := { program := "ytilgfaangfbndaadoor", sum := "0c0fd81fbaeaf1d80d6bb8e6b8fc16b240e56c557c9a8a3b09f2003ce136a270", func := "vidimus/vidimuslaw01.NatsDivide", spec := "natsDivide", inPlace := ["internal/bytealg.Compare"], unfollowed := true, recurses := true, named := ["unicode/utf8.first", "unicode/utf8.acceptRanges"], apart := false, laid := [("unicode/utf8.acceptRanges", laid_unicode_utf8_acceptRanges), ("unicode/utf8.first", laid_unicode_utf8_first)], narrowed := true }
def NatsDivideUptoSaid : Prop := natsDivideUptoRow.holds Tryd.pinned (OpenSpec.upto natsDivideSpec)

/-- 'vidimuslaw01.NatsPower', WHERE WHAT IT READS IS OF BULK AT MOST 1048576: true; the input reads as it did. -/
def natsPowerUptoRow : OpenClaim := { program := "ytilgfaangfbndaadoor", sum := "0c0fd81fbaeaf1d80d6bb8e6b8fc16b240e56c557c9a8a3b09f2003ce136a270", func := "vidimus/vidimuslaw01.NatsPower", spec := "natsPower", inPlace := ["internal/bytealg.Compare"], unfollowed := true, recurses := true, named := ["unicode/utf8.first", "unicode/utf8.acceptRanges"], apart := false, laid := [("unicode/utf8.acceptRanges", laid_unicode_utf8_acceptRanges), ("unicode/utf8.first", laid_unicode_utf8_first)], narrowed := true }
def NatsPowerUptoSaid : Prop := natsPowerUptoRow.holds Tryd.pinned (OpenSpec.upto natsPowerSpec)

/-- 'vidimuslaw01.NatsOrder', WHERE WHAT IT READS IS OF BULK AT MOST 1048576: true; the input reads as it did. -/
def natsOrderUptoRow : OpenClaim := { program := "ytilgfaangfbndaadoor", sum := "0c0fd81fbaeaf1d80d6bb8e6b8fc16b240e56c557c9a8a3b09f2003ce136a270", func := "vidimus/vidimuslaw01.NatsOrder", spec := "natsOrder", inPlace := ["internal/bytealg.Compare"], unfollowed := true, recurses := true, named := ["unicode/utf8.first", "unicode/utf8.acceptRanges"], apart := false, laid := [("unicode/utf8.acceptRanges", laid_unicode_utf8_acceptRanges), ("unicode/utf8.first", laid_unicode_utf8_first)], narrowed := true }
def NatsOrderUptoSaid : Prop := natsOrderUptoRow.holds Tryd.pinned (OpenSpec.upto natsOrderSpec)

/-- 'vidimuslaw01.NatsText', WHERE WHAT IT READS IS OF BULK AT MOST 1048576: true; the input reads as it did. -/
def natsTextUptoRow : OpenClaim := { program := "ytilgfaangfbndaadoor", sum := "0c0fd81fbaeaf1d80d6bb8e6b8fc16b240e56c557c9a8a3b09f2003ce136a270", func := "vidimus/vidimuslaw01.NatsText", spec := "natsText", inPlace := ["internal/bytealg.Compare"], unfollowed := true, recurses := true, named := ["unicode/utf8.first", "unicode/utf8.acceptRanges"], apart := false, laid := [("unicode/utf8.acceptRanges", laid_unicode_utf8_acceptRanges), ("unicode/utf8.first", laid_unicode_utf8_first)], narrowed := true }
def NatsTextUptoSaid : Prop := natsTextUptoRow.holds Tryd.pinned (OpenSpec.upto natsTextSpec)

/-- 'vidimuslaw01.NatsKnown', WHERE WHAT IT READS IS OF BULK AT MOST 1048576: true; the input reads as it did. -/
def natsKnownUptoRow : OpenClaim := { program := "ytilgfaangfbndaadoor", sum := "0c0fd81fbaeaf1d80d6bb8e6b8fc16b240e56c557c9a8a3b09f2003ce136a270", func := "vidimus/vidimuslaw01.NatsKnown", spec := "natsKnown", inPlace := ["internal/bytealg.Compare"], unfollowed := true, recurses := true, named := ["unicode/utf8.first", "unicode/utf8.acceptRanges"], apart := false, laid := [("unicode/utf8.acceptRanges", laid_unicode_utf8_acceptRanges), ("unicode/utf8.first", laid_unicode_utf8_first)], narrowed := true }
def NatsKnownUptoSaid : Prop := natsKnownUptoRow.holds Tryd.pinned (OpenSpec.upto natsKnownSpec)

/-- 'vidimuslaw01.NatsCheck', WHERE WHAT IT READS IS OF BULK AT MOST 1048576: true; the input reads as it did. -/
def natsCheckUptoRow : OpenClaim := { program := "ytilgfaangfbndaadoor", sum := "0c0fd81fbaeaf1d80d6bb8e6b8fc16b240e56c557c9a8a3b09f2003ce136a270", func := "vidimus/vidimuslaw01.NatsCheck", spec := "natsCheck", inPlace := ["internal/bytealg.Compare"], unfollowed := true, recurses := true, named := ["unicode/utf8.first", "unicode/utf8.acceptRanges"], apart := false, laid := [("unicode/utf8.acceptRanges", laid_unicode_utf8_acceptRanges), ("unicode/utf8.first", laid_unicode_utf8_first)], narrowed := true }
def NatsCheckUptoSaid : Prop := natsCheckUptoRow.holds Tryd.pinned (OpenSpec.upto natsCheckSpec)

/-- 'vidimuslaw01.NatsSmall', WHERE WHAT IT READS IS OF BULK AT MOST 1048576: true; the input reads as it did. -/
def natsSmallUptoRow : OpenClaim := { program := "ytilgfaangfbndaadoor", sum := "0c0fd81fbaeaf1d80d6bb8e6b8fc16b240e56c557c9a8a3b09f2003ce136a270", func := "vidimus/vidimuslaw01.NatsSmall", spec := "natsSmall", inPlace := ["internal/bytealg.Compare"], unfollowed := true, recurses := true, named := ["unicode/utf8.first", "unicode/utf8.acceptRanges"], apart := false, laid := [("unicode/utf8.acceptRanges", laid_unicode_utf8_acceptRanges), ("unicode/utf8.first", laid_unicode_utf8_first)], narrowed := true }
def NatsSmallUptoSaid : Prop := natsSmallUptoRow.holds Tryd.pinned (OpenSpec.upto natsSmallSpec)

end Rows
end Go.Proofs.YtilgfaangfbndaaDoor
