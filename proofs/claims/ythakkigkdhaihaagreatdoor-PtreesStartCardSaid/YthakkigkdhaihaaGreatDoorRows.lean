/-
  NARROWER THAN 'FOR EVERY INPUT', by the rows' own cells (each row's printed sentence says how): CountersKnown: laid · PtreesErrors: laid · PtreesLines: laid · PtreesStart: laid.
  DERIVED. THE GIVEN ROWS OF THIS SEAT. 4 by the template 'for every input the law returns true; each argument reads behind the call as it read before'; 0 by the template 'total and deterministic' (their statements: YthakkigkdhaihaaGreatDoorTotals.lean).
  GIVEN WITH THE SEED: the statements are not yours to turn. If you find one false, say at which input.
  Laid BY PROGRAM, IN A SANDBOX (cutbox-rows.mjs): the forced cells as the released guide's own fill.sh prints them over the translation 77646c929959cc1f… (all of the seat's roots in one cut). By AI agents, Wed Nov 11 2026. No macro, syntax, notation, axiom, sorry.
-/
import Derived.Test.YthakkigkdhaihaaGreatDoorChecked
import GoSem.PinnedTables
import GoSem.Claim
import GoSem.ClaimJoined
import GoSem.ClaimMapViews
import Derived.JoinedTies
import Derived.KernelRfl
namespace Go.Proofs.YthakkigkdhaihaaGreatDoor
/- THE CELL 'sum', in the pinned program and in every row, IS THE sha256 OF THE DUMP (.gsa) THAT YthakkigkdhaihaaGreatDoorProg.lean LOADS. Nothing in Lean hashes anything: it is a label: what it is worth is what the hold of that sum in a sandbox is worth. -/
noncomputable def Tryz.pinned : Pinned := { name := "ythakkigkdhaihaagreatdoor", sum := "77646c929959cc1f44d282ac8e561d11f230f11495f84f40453b10d0dc0905c5", checked := Tryz.checked }
namespace Rows
def none {H : Type} : Left H := { results := [], args := [] }

/- WHAT THE LISTED PACKAGE-LEVEL VARIABLES READ AS WHEN THE CALL BEGINS. Each datum BY PROGRAM (the guide's laid-datum.mjs) off the statement by which the dump's own 'gosem.cut.vars' lays the variable. In a bare row this is a premise. The card (YthakkigkdhaihaaGreatDoorCards.lean) ties it to the program's text. -/
def laid_unicode_utf8_acceptRanges {H : Type} : DataW H := .agg [.agg [.lit (.int .u8 128), .lit (.int .u8 191)], .agg [.lit (.int .u8 160), .lit (.int .u8 191)], .agg [.lit (.int .u8 128), .lit (.int .u8 159)], .agg [.lit (.int .u8 144), .lit (.int .u8 191)], .agg [.lit (.int .u8 128), .lit (.int .u8 143)], .agg [.lit (.int .u8 0), .lit (.int .u8 0)], .agg [.lit (.int .u8 0), .lit (.int .u8 0)], .agg [.lit (.int .u8 0), .lit (.int .u8 0)], .agg [.lit (.int .u8 0), .lit (.int .u8 0)], .agg [.lit (.int .u8 0), .lit (.int .u8 0)], .agg [.lit (.int .u8 0), .lit (.int .u8 0)], .agg [.lit (.int .u8 0), .lit (.int .u8 0)], .agg [.lit (.int .u8 0), .lit (.int .u8 0)], .agg [.lit (.int .u8 0), .lit (.int .u8 0)], .agg [.lit (.int .u8 0), .lit (.int .u8 0)], .agg [.lit (.int .u8 0), .lit (.int .u8 0)]]
def laid_vidimus_qualifiers_sequence {H : Type} : DataW H := .agg [.lit (.int .u8 0), .lit (.bool true), .lit (.int .u32 16)]
def laid_vidimus_qualifiers_oid {H : Type} : DataW H := .agg [.lit (.int .u8 0), .lit (.bool false), .lit (.int .u32 6)]
def laid_vidimus_qualifiers_ia5 {H : Type} : DataW H := .agg [.lit (.int .u8 0), .lit (.bool false), .lit (.int .u32 22)]
def laid_vidimus_qualifiers_integer {H : Type} : DataW H := .agg [.lit (.int .u8 0), .lit (.bool false), .lit (.int .u32 2)]
def laid_vidimus_qualifiers_shown {H : Type} : DataW H := .agg [.lit (.int .u32 12), .lit (.int .u32 22), .lit (.int .u32 26), .lit (.int .u32 30)]
/-- One of Go's own tables, pinned by name: the form's constant. -/
def laid_unicode_utf8_first : DataW Unit := Go.Pinned.utf8First

/-- 'vidimuslaw24.CountersKnown': WHATEVER THE INPUT: true; the input reads as it did. -/
def countersKnownSpec : ChangeSpec := { name := "countersKnown", fn := fun _ => fun
  | [] => { results := [.lit (.bool true)], args := [] }
  | _ => none }
def countersKnownRow : OpenClaim := { program := "ythakkigkdhaihaagreatdoor", sum := "77646c929959cc1f44d282ac8e561d11f230f11495f84f40453b10d0dc0905c5", func := "vidimus/vidimuslaw24.CountersKnown", spec := "countersKnown", inPlace := ["internal/bytealg.IndexByteString", "internal/bytealg.IndexString"], unfollowed := true, recurses := true, named := ["vidimus/qualifiers.sequence", "vidimus/qualifiers.oid", "vidimus/qualifiers.ia5", "vidimus/qualifiers.shown", "unicode/utf8.first", "unicode/utf8.acceptRanges", "vidimus/qualifiers.integer", "internal/bytealg.MaxLen"], plainKeys := false, apart := false, laid := [("unicode/utf8.acceptRanges", laid_unicode_utf8_acceptRanges), ("vidimus/qualifiers.sequence", laid_vidimus_qualifiers_sequence), ("vidimus/qualifiers.oid", laid_vidimus_qualifiers_oid), ("vidimus/qualifiers.ia5", laid_vidimus_qualifiers_ia5), ("vidimus/qualifiers.integer", laid_vidimus_qualifiers_integer), ("vidimus/qualifiers.shown", laid_vidimus_qualifiers_shown), ("unicode/utf8.first", laid_unicode_utf8_first)] }
def CountersKnownSaid : Prop := countersKnownRow.holds Tryz.pinned (OpenSpec.ofChange countersKnownSpec)

/-- ITS FALSE NEIGHBOUR: 'it returns false'. Refute it at one input. -/
def countersKnownWrong : ChangeSpec := { name := "countersKnown", fn := fun _ => fun
  | [] => { results := [.lit (.bool false)], args := [] }
  | _ => none }
def CountersKnownWrongFalsely : Prop := countersKnownRow.holds Tryz.pinned (OpenSpec.ofChange countersKnownWrong)

/-- 'vidimuslaw28.PtreesErrors': WHATEVER THE INPUT: true; the input reads as it did. -/
def ptreesErrorsSpec : ChangeSpec := { name := "ptreesErrors", fn := fun _ => fun
  | [d1, d2, d3] => { results := [.lit (.bool true)], args := [d1, d2, d3] }
  | _ => none }
def ptreesErrorsRow : OpenClaim := { program := "ythakkigkdhaihaagreatdoor", sum := "77646c929959cc1f44d282ac8e561d11f230f11495f84f40453b10d0dc0905c5", func := "vidimus/vidimuslaw28.PtreesErrors", spec := "ptreesErrors", inPlace := ["internal/bytealg.IndexByteString", "internal/bytealg.IndexString"], unfollowed := true, recurses := true, named := ["vidimus/qualifiers.sequence", "vidimus/qualifiers.oid", "vidimus/qualifiers.ia5", "vidimus/qualifiers.shown", "unicode/utf8.first", "unicode/utf8.acceptRanges", "vidimus/qualifiers.integer", "internal/bytealg.MaxLen"], plainKeys := false, apart := false, laid := [("unicode/utf8.acceptRanges", laid_unicode_utf8_acceptRanges), ("vidimus/qualifiers.sequence", laid_vidimus_qualifiers_sequence), ("vidimus/qualifiers.oid", laid_vidimus_qualifiers_oid), ("vidimus/qualifiers.ia5", laid_vidimus_qualifiers_ia5), ("vidimus/qualifiers.integer", laid_vidimus_qualifiers_integer), ("vidimus/qualifiers.shown", laid_vidimus_qualifiers_shown), ("unicode/utf8.first", laid_unicode_utf8_first)] }
def PtreesErrorsSaid : Prop := ptreesErrorsRow.holds Tryz.pinned (OpenSpec.ofChange ptreesErrorsSpec)

/-- ITS FALSE NEIGHBOUR: 'it returns false'. Refute it at one input. -/
def ptreesErrorsWrong : ChangeSpec := { name := "ptreesErrors", fn := fun _ => fun
  | [d1, d2, d3] => { results := [.lit (.bool false)], args := [d1, d2, d3] }
  | _ => none }
def PtreesErrorsWrongFalsely : Prop := ptreesErrorsRow.holds Tryz.pinned (OpenSpec.ofChange ptreesErrorsWrong)

/-- 'vidimuslaw28.PtreesLines': WHATEVER THE INPUT: true; the input reads as it did. -/
def ptreesLinesSpec : ChangeSpec := { name := "ptreesLines", fn := fun _ => fun
  | [d] => { results := [.lit (.bool true)], args := [d] }
  | _ => none }
def ptreesLinesRow : OpenClaim := { program := "ythakkigkdhaihaagreatdoor", sum := "77646c929959cc1f44d282ac8e561d11f230f11495f84f40453b10d0dc0905c5", func := "vidimus/vidimuslaw28.PtreesLines", spec := "ptreesLines", inPlace := ["internal/bytealg.IndexByteString", "internal/bytealg.IndexString"], unfollowed := true, recurses := true, named := ["vidimus/qualifiers.sequence", "vidimus/qualifiers.oid", "vidimus/qualifiers.ia5", "vidimus/qualifiers.shown", "unicode/utf8.first", "unicode/utf8.acceptRanges", "vidimus/qualifiers.integer", "internal/bytealg.MaxLen"], plainKeys := false, apart := false, laid := [("unicode/utf8.acceptRanges", laid_unicode_utf8_acceptRanges), ("vidimus/qualifiers.sequence", laid_vidimus_qualifiers_sequence), ("vidimus/qualifiers.oid", laid_vidimus_qualifiers_oid), ("vidimus/qualifiers.ia5", laid_vidimus_qualifiers_ia5), ("vidimus/qualifiers.integer", laid_vidimus_qualifiers_integer), ("vidimus/qualifiers.shown", laid_vidimus_qualifiers_shown), ("unicode/utf8.first", laid_unicode_utf8_first)] }
def PtreesLinesSaid : Prop := ptreesLinesRow.holds Tryz.pinned (OpenSpec.ofChange ptreesLinesSpec)

/-- ITS FALSE NEIGHBOUR: 'it returns false'. Refute it at one input. -/
def ptreesLinesWrong : ChangeSpec := { name := "ptreesLines", fn := fun _ => fun
  | [d] => { results := [.lit (.bool false)], args := [d] }
  | _ => none }
def PtreesLinesWrongFalsely : Prop := ptreesLinesRow.holds Tryz.pinned (OpenSpec.ofChange ptreesLinesWrong)

/-- 'vidimuslaw28.PtreesStart': WHATEVER THE INPUT: true; the input reads as it did. -/
def ptreesStartSpec : ChangeSpec := { name := "ptreesStart", fn := fun _ => fun
  | [d1, d2, d3] => { results := [.lit (.bool true)], args := [d1, d2, d3] }
  | _ => none }
def ptreesStartRow : OpenClaim := { program := "ythakkigkdhaihaagreatdoor", sum := "77646c929959cc1f44d282ac8e561d11f230f11495f84f40453b10d0dc0905c5", func := "vidimus/vidimuslaw28.PtreesStart", spec := "ptreesStart", inPlace := ["internal/bytealg.IndexByteString", "internal/bytealg.IndexString"], unfollowed := true, recurses := true, named := ["vidimus/qualifiers.sequence", "vidimus/qualifiers.oid", "vidimus/qualifiers.ia5", "vidimus/qualifiers.shown", "unicode/utf8.first", "unicode/utf8.acceptRanges", "vidimus/qualifiers.integer", "internal/bytealg.MaxLen"], plainKeys := false, apart := false, laid := [("unicode/utf8.acceptRanges", laid_unicode_utf8_acceptRanges), ("vidimus/qualifiers.sequence", laid_vidimus_qualifiers_sequence), ("vidimus/qualifiers.oid", laid_vidimus_qualifiers_oid), ("vidimus/qualifiers.ia5", laid_vidimus_qualifiers_ia5), ("vidimus/qualifiers.integer", laid_vidimus_qualifiers_integer), ("vidimus/qualifiers.shown", laid_vidimus_qualifiers_shown), ("unicode/utf8.first", laid_unicode_utf8_first)] }
def PtreesStartSaid : Prop := ptreesStartRow.holds Tryz.pinned (OpenSpec.ofChange ptreesStartSpec)

/-- ITS FALSE NEIGHBOUR: 'it returns false'. Refute it at one input. -/
def ptreesStartWrong : ChangeSpec := { name := "ptreesStart", fn := fun _ => fun
  | [d1, d2, d3] => { results := [.lit (.bool false)], args := [d1, d2, d3] }
  | _ => none }
def PtreesStartWrongFalsely : Prop := ptreesStartRow.holds Tryz.pinned (OpenSpec.ofChange ptreesStartWrong)

/- THE SECOND FORM. 'bulk': how many values and letters a reading holds, each counted each time it is reached (what is shared counts as often as it is met; a slice's spare places count too). A statement '..UptoSaid' is the law's where the arguments, and the package variables that the reading takes, are together of bulk at most 1048576: NARROWER than '..Said'. Prove '..Said' where nothing that the law and all that it calls make is longer than what came in: it says more and counts as full. Else prove '..UptoSaid'. A law counts once. -/
mutual
def uptoBulk {H : Type} : DataW H → Nat
  | .lit (.string bytes) => bytes.length + 1
  | .lit _ => 1
  | .nil => 1
  | .ptr d => uptoBulk d + 1
  | .slice elems spare => uptoBulkAll elems + uptoBulkAll spare + 1
  | .agg parts => uptoBulkAll parts + 1
  | .iface _ d => uptoBulk d + 1
  | .map entries => uptoBulkEntries entries + 1
  | .held _ => 1
def uptoBulkAll {H : Type} : List (DataW H) → Nat
  | [] => 0
  | d :: r => uptoBulk d + uptoBulkAll r
def uptoBulkEntries {H : Type} : List (Lit × DataW H) → Nat
  | [] => 0
  | x :: r => uptoBulkEntry x + uptoBulkEntries r
def uptoBulkEntry {H : Type} : Lit × DataW H → Nat
  | (.string bytes, d) => bytes.length + uptoBulk d + 1
  | (_, d) => uptoBulk d + 1
 end
def uptoSmall : (H : Type) → List (DataW H) → Bool := fun _ ds => decide (uptoBulkAll ds ≤ 1048576)
def OpenSpec.upto (s : _root_.Go.ChangeSpec) : _root_.Go.OpenSpec := { _root_.Go.OpenSpec.ofChange s with cond := some uptoSmall }

/-- 'vidimuslaw24.CountersKnown', WHERE WHAT IT READS IS OF BULK AT MOST 1048576: true; the input reads as it did. -/
def countersKnownUptoRow : OpenClaim := { program := "ythakkigkdhaihaagreatdoor", sum := "77646c929959cc1f44d282ac8e561d11f230f11495f84f40453b10d0dc0905c5", func := "vidimus/vidimuslaw24.CountersKnown", spec := "countersKnown", inPlace := ["internal/bytealg.IndexByteString", "internal/bytealg.IndexString"], unfollowed := true, recurses := true, named := ["vidimus/qualifiers.sequence", "vidimus/qualifiers.oid", "vidimus/qualifiers.ia5", "vidimus/qualifiers.shown", "unicode/utf8.first", "unicode/utf8.acceptRanges", "vidimus/qualifiers.integer", "internal/bytealg.MaxLen"], plainKeys := false, apart := false, laid := [("unicode/utf8.acceptRanges", laid_unicode_utf8_acceptRanges), ("vidimus/qualifiers.sequence", laid_vidimus_qualifiers_sequence), ("vidimus/qualifiers.oid", laid_vidimus_qualifiers_oid), ("vidimus/qualifiers.ia5", laid_vidimus_qualifiers_ia5), ("vidimus/qualifiers.integer", laid_vidimus_qualifiers_integer), ("vidimus/qualifiers.shown", laid_vidimus_qualifiers_shown), ("unicode/utf8.first", laid_unicode_utf8_first)], narrowed := true }
def CountersKnownUptoSaid : Prop := countersKnownUptoRow.holds Tryz.pinned (OpenSpec.upto countersKnownSpec)

/-- 'vidimuslaw28.PtreesErrors', WHERE WHAT IT READS IS OF BULK AT MOST 1048576: true; the input reads as it did. -/
def ptreesErrorsUptoRow : OpenClaim := { program := "ythakkigkdhaihaagreatdoor", sum := "77646c929959cc1f44d282ac8e561d11f230f11495f84f40453b10d0dc0905c5", func := "vidimus/vidimuslaw28.PtreesErrors", spec := "ptreesErrors", inPlace := ["internal/bytealg.IndexByteString", "internal/bytealg.IndexString"], unfollowed := true, recurses := true, named := ["vidimus/qualifiers.sequence", "vidimus/qualifiers.oid", "vidimus/qualifiers.ia5", "vidimus/qualifiers.shown", "unicode/utf8.first", "unicode/utf8.acceptRanges", "vidimus/qualifiers.integer", "internal/bytealg.MaxLen"], plainKeys := false, apart := false, laid := [("unicode/utf8.acceptRanges", laid_unicode_utf8_acceptRanges), ("vidimus/qualifiers.sequence", laid_vidimus_qualifiers_sequence), ("vidimus/qualifiers.oid", laid_vidimus_qualifiers_oid), ("vidimus/qualifiers.ia5", laid_vidimus_qualifiers_ia5), ("vidimus/qualifiers.integer", laid_vidimus_qualifiers_integer), ("vidimus/qualifiers.shown", laid_vidimus_qualifiers_shown), ("unicode/utf8.first", laid_unicode_utf8_first)], narrowed := true }
def PtreesErrorsUptoSaid : Prop := ptreesErrorsUptoRow.holds Tryz.pinned (OpenSpec.upto ptreesErrorsSpec)

/-- 'vidimuslaw28.PtreesLines', WHERE WHAT IT READS IS OF BULK AT MOST 1048576: true; the input reads as it did. -/
def ptreesLinesUptoRow : OpenClaim := { program := "ythakkigkdhaihaagreatdoor", sum := "77646c929959cc1f44d282ac8e561d11f230f11495f84f40453b10d0dc0905c5", func := "vidimus/vidimuslaw28.PtreesLines", spec := "ptreesLines", inPlace := ["internal/bytealg.IndexByteString", "internal/bytealg.IndexString"], unfollowed := true, recurses := true, named := ["vidimus/qualifiers.sequence", "vidimus/qualifiers.oid", "vidimus/qualifiers.ia5", "vidimus/qualifiers.shown", "unicode/utf8.first", "unicode/utf8.acceptRanges", "vidimus/qualifiers.integer", "internal/bytealg.MaxLen"], plainKeys := false, apart := false, laid := [("unicode/utf8.acceptRanges", laid_unicode_utf8_acceptRanges), ("vidimus/qualifiers.sequence", laid_vidimus_qualifiers_sequence), ("vidimus/qualifiers.oid", laid_vidimus_qualifiers_oid), ("vidimus/qualifiers.ia5", laid_vidimus_qualifiers_ia5), ("vidimus/qualifiers.integer", laid_vidimus_qualifiers_integer), ("vidimus/qualifiers.shown", laid_vidimus_qualifiers_shown), ("unicode/utf8.first", laid_unicode_utf8_first)], narrowed := true }
def PtreesLinesUptoSaid : Prop := ptreesLinesUptoRow.holds Tryz.pinned (OpenSpec.upto ptreesLinesSpec)

/-- 'vidimuslaw28.PtreesStart', WHERE WHAT IT READS IS OF BULK AT MOST 1048576: true; the input reads as it did. -/
def ptreesStartUptoRow : OpenClaim := { program := "ythakkigkdhaihaagreatdoor", sum := "77646c929959cc1f44d282ac8e561d11f230f11495f84f40453b10d0dc0905c5", func := "vidimus/vidimuslaw28.PtreesStart", spec := "ptreesStart", inPlace := ["internal/bytealg.IndexByteString", "internal/bytealg.IndexString"], unfollowed := true, recurses := true, named := ["vidimus/qualifiers.sequence", "vidimus/qualifiers.oid", "vidimus/qualifiers.ia5", "vidimus/qualifiers.shown", "unicode/utf8.first", "unicode/utf8.acceptRanges", "vidimus/qualifiers.integer", "internal/bytealg.MaxLen"], plainKeys := false, apart := false, laid := [("unicode/utf8.acceptRanges", laid_unicode_utf8_acceptRanges), ("vidimus/qualifiers.sequence", laid_vidimus_qualifiers_sequence), ("vidimus/qualifiers.oid", laid_vidimus_qualifiers_oid), ("vidimus/qualifiers.ia5", laid_vidimus_qualifiers_ia5), ("vidimus/qualifiers.integer", laid_vidimus_qualifiers_integer), ("vidimus/qualifiers.shown", laid_vidimus_qualifiers_shown), ("unicode/utf8.first", laid_unicode_utf8_first)], narrowed := true }
def PtreesStartUptoSaid : Prop := ptreesStartUptoRow.holds Tryz.pinned (OpenSpec.upto ptreesStartSpec)

end Rows
end Go.Proofs.YthakkigkdhaihaaGreatDoor
