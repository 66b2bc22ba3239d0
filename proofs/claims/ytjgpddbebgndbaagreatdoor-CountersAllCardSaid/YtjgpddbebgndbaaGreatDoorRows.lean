/-
  NARROWER THAN 'FOR EVERY INPUT', by the rows' own cells (each row's printed sentence says how): CountersStart: laid · CountersAll: laid · CountersLeast: laid · CountersZero: laid · CountersKnown: laid · CountersNext: laid · CountersErrors: laid.
  DERIVED. THE GIVEN ROWS OF THIS SEAT. 7 by the template 'for every input the law returns true; each argument reads behind the call as it read before'; 0 by the template 'total and deterministic' (their statements: YtjgpddbebgndbaaGreatDoorTotals.lean).
  GIVEN WITH THE SEED: the statements are not yours to turn. If you find one false, say at which input.
  Laid BY PROGRAM, IN A SANDBOX (cutbox-rows.mjs): the forced cells as the released guide's own fill.sh prints them over the translation 3af76d7353d8e963… (all of the seat's roots in one cut). By AI agents, Wed Nov 11 2026. No macro, syntax, notation, axiom, sorry.
-/
import Derived.Test.YtjgpddbebgndbaaGreatDoorChecked
import GoSem.PinnedTables
import GoSem.Claim
import GoSem.ClaimJoined
import GoSem.ClaimMapViews
import Derived.JoinedTies
import Derived.KernelRfl
namespace Go.Proofs.YtjgpddbebgndbaaGreatDoor
/- THE CELL 'sum', in the pinned program and in every row, IS THE sha256 OF THE DUMP (.gsa) THAT YtjgpddbebgndbaaGreatDoorProg.lean LOADS. Nothing in Lean hashes anything: it is a label: what it is worth is what the hold of that sum in a sandbox is worth. -/
noncomputable def Tryz.pinned : Pinned := { name := "ytjgpddbebgndbaagreatdoor", sum := "3af76d7353d8e963653ab29390fe8f5c2714443f72181adabfcbd6d29af3f392", checked := Tryz.checked }
namespace Rows
def none {H : Type} : Left H := { results := [], args := [] }

/- WHAT THE LISTED PACKAGE-LEVEL VARIABLES READ AS WHEN THE CALL BEGINS. Each datum BY PROGRAM (the guide's laid-datum.mjs) off the statement by which the dump's own 'gosem.cut.vars' lays the variable. In a bare row this is a premise. The card (YtjgpddbebgndbaaGreatDoorCards.lean) ties it to the program's text. -/
def laid_unicode_utf8_acceptRanges {H : Type} : DataW H := .agg [.agg [.lit (.int .u8 128), .lit (.int .u8 191)], .agg [.lit (.int .u8 160), .lit (.int .u8 191)], .agg [.lit (.int .u8 128), .lit (.int .u8 159)], .agg [.lit (.int .u8 144), .lit (.int .u8 191)], .agg [.lit (.int .u8 128), .lit (.int .u8 143)], .agg [.lit (.int .u8 0), .lit (.int .u8 0)], .agg [.lit (.int .u8 0), .lit (.int .u8 0)], .agg [.lit (.int .u8 0), .lit (.int .u8 0)], .agg [.lit (.int .u8 0), .lit (.int .u8 0)], .agg [.lit (.int .u8 0), .lit (.int .u8 0)], .agg [.lit (.int .u8 0), .lit (.int .u8 0)], .agg [.lit (.int .u8 0), .lit (.int .u8 0)], .agg [.lit (.int .u8 0), .lit (.int .u8 0)], .agg [.lit (.int .u8 0), .lit (.int .u8 0)], .agg [.lit (.int .u8 0), .lit (.int .u8 0)], .agg [.lit (.int .u8 0), .lit (.int .u8 0)]]
def laid_vidimus_qualifiers_sequence {H : Type} : DataW H := .agg [.lit (.int .u8 0), .lit (.bool true), .lit (.int .u32 16)]
def laid_vidimus_qualifiers_oid {H : Type} : DataW H := .agg [.lit (.int .u8 0), .lit (.bool false), .lit (.int .u32 6)]
def laid_vidimus_qualifiers_ia5 {H : Type} : DataW H := .agg [.lit (.int .u8 0), .lit (.bool false), .lit (.int .u32 22)]
def laid_vidimus_qualifiers_integer {H : Type} : DataW H := .agg [.lit (.int .u8 0), .lit (.bool false), .lit (.int .u32 2)]
def laid_vidimus_qualifiers_shown {H : Type} : DataW H := .agg [.lit (.int .u32 12), .lit (.int .u32 22), .lit (.int .u32 26), .lit (.int .u32 30)]
/-- One of Go's own tables, pinned by name: the form's constant. -/
def laid_unicode_utf8_first : DataW Unit := Go.Pinned.utf8First

/-- 'vidimuslaw24.CountersStart': WHATEVER THE INPUT: true; the input reads as it did. -/
def countersStartSpec : ChangeSpec := { name := "countersStart", fn := fun _ => fun
  | [d1, d2, d3] => { results := [.lit (.bool true)], args := [d1, d2, d3] }
  | _ => none }
def countersStartRow : OpenClaim := { program := "ytjgpddbebgndbaagreatdoor", sum := "3af76d7353d8e963653ab29390fe8f5c2714443f72181adabfcbd6d29af3f392", func := "vidimus/vidimuslaw24.CountersStart", spec := "countersStart", inPlace := ["internal/bytealg.IndexByteString", "internal/bytealg.IndexString"], unfollowed := true, recurses := true, named := ["vidimus/qualifiers.sequence", "vidimus/qualifiers.oid", "vidimus/qualifiers.ia5", "vidimus/qualifiers.shown", "unicode/utf8.first", "unicode/utf8.acceptRanges", "vidimus/qualifiers.integer", "internal/bytealg.MaxLen"], apart := false, laid := [("unicode/utf8.acceptRanges", laid_unicode_utf8_acceptRanges), ("vidimus/qualifiers.sequence", laid_vidimus_qualifiers_sequence), ("vidimus/qualifiers.oid", laid_vidimus_qualifiers_oid), ("vidimus/qualifiers.ia5", laid_vidimus_qualifiers_ia5), ("vidimus/qualifiers.integer", laid_vidimus_qualifiers_integer), ("vidimus/qualifiers.shown", laid_vidimus_qualifiers_shown), ("unicode/utf8.first", laid_unicode_utf8_first)] }
def CountersStartSaid : Prop := countersStartRow.holds Tryz.pinned (OpenSpec.ofChange countersStartSpec)

/-- ITS FALSE NEIGHBOUR: 'it returns false'. Refute it at one input. -/
def countersStartWrong : ChangeSpec := { name := "countersStart", fn := fun _ => fun
  | [d1, d2, d3] => { results := [.lit (.bool false)], args := [d1, d2, d3] }
  | _ => none }
def CountersStartWrongFalsely : Prop := countersStartRow.holds Tryz.pinned (OpenSpec.ofChange countersStartWrong)

/-- 'vidimuslaw24.CountersAll': WHATEVER THE INPUT: true; the input reads as it did. -/
def countersAllSpec : ChangeSpec := { name := "countersAll", fn := fun _ => fun
  | [d] => { results := [.lit (.bool true)], args := [d] }
  | _ => none }
def countersAllRow : OpenClaim := { program := "ytjgpddbebgndbaagreatdoor", sum := "3af76d7353d8e963653ab29390fe8f5c2714443f72181adabfcbd6d29af3f392", func := "vidimus/vidimuslaw24.CountersAll", spec := "countersAll", inPlace := ["internal/bytealg.IndexByteString", "internal/bytealg.IndexString"], unfollowed := true, recurses := true, named := ["vidimus/qualifiers.sequence", "vidimus/qualifiers.oid", "vidimus/qualifiers.ia5", "vidimus/qualifiers.shown", "unicode/utf8.first", "unicode/utf8.acceptRanges", "vidimus/qualifiers.integer", "internal/bytealg.MaxLen"], apart := false, laid := [("unicode/utf8.acceptRanges", laid_unicode_utf8_acceptRanges), ("vidimus/qualifiers.sequence", laid_vidimus_qualifiers_sequence), ("vidimus/qualifiers.oid", laid_vidimus_qualifiers_oid), ("vidimus/qualifiers.ia5", laid_vidimus_qualifiers_ia5), ("vidimus/qualifiers.integer", laid_vidimus_qualifiers_integer), ("vidimus/qualifiers.shown", laid_vidimus_qualifiers_shown), ("unicode/utf8.first", laid_unicode_utf8_first)] }
def CountersAllSaid : Prop := countersAllRow.holds Tryz.pinned (OpenSpec.ofChange countersAllSpec)

/-- ITS FALSE NEIGHBOUR: 'it returns false'. Refute it at one input. -/
def countersAllWrong : ChangeSpec := { name := "countersAll", fn := fun _ => fun
  | [d] => { results := [.lit (.bool false)], args := [d] }
  | _ => none }
def CountersAllWrongFalsely : Prop := countersAllRow.holds Tryz.pinned (OpenSpec.ofChange countersAllWrong)

/-- 'vidimuslaw24.CountersLeast': WHATEVER THE INPUT: true; the input reads as it did. -/
def countersLeastSpec : ChangeSpec := { name := "countersLeast", fn := fun _ => fun
  | [d] => { results := [.lit (.bool true)], args := [d] }
  | _ => none }
def countersLeastRow : OpenClaim := { program := "ytjgpddbebgndbaagreatdoor", sum := "3af76d7353d8e963653ab29390fe8f5c2714443f72181adabfcbd6d29af3f392", func := "vidimus/vidimuslaw24.CountersLeast", spec := "countersLeast", inPlace := ["internal/bytealg.IndexByteString", "internal/bytealg.IndexString"], unfollowed := true, recurses := true, named := ["vidimus/qualifiers.sequence", "vidimus/qualifiers.oid", "vidimus/qualifiers.ia5", "vidimus/qualifiers.shown", "unicode/utf8.first", "unicode/utf8.acceptRanges", "vidimus/qualifiers.integer", "internal/bytealg.MaxLen"], apart := false, laid := [("unicode/utf8.acceptRanges", laid_unicode_utf8_acceptRanges), ("vidimus/qualifiers.sequence", laid_vidimus_qualifiers_sequence), ("vidimus/qualifiers.oid", laid_vidimus_qualifiers_oid), ("vidimus/qualifiers.ia5", laid_vidimus_qualifiers_ia5), ("vidimus/qualifiers.integer", laid_vidimus_qualifiers_integer), ("vidimus/qualifiers.shown", laid_vidimus_qualifiers_shown), ("unicode/utf8.first", laid_unicode_utf8_first)] }
def CountersLeastSaid : Prop := countersLeastRow.holds Tryz.pinned (OpenSpec.ofChange countersLeastSpec)

/-- ITS FALSE NEIGHBOUR: 'it returns false'. Refute it at one input. -/
def countersLeastWrong : ChangeSpec := { name := "countersLeast", fn := fun _ => fun
  | [d] => { results := [.lit (.bool false)], args := [d] }
  | _ => none }
def CountersLeastWrongFalsely : Prop := countersLeastRow.holds Tryz.pinned (OpenSpec.ofChange countersLeastWrong)

/-- 'vidimuslaw24.CountersZero': WHATEVER THE INPUT: true; the input reads as it did. -/
def countersZeroSpec : ChangeSpec := { name := "countersZero", fn := fun _ => fun
  | [d1, d2] => { results := [.lit (.bool true)], args := [d1, d2] }
  | _ => none }
def countersZeroRow : OpenClaim := { program := "ytjgpddbebgndbaagreatdoor", sum := "3af76d7353d8e963653ab29390fe8f5c2714443f72181adabfcbd6d29af3f392", func := "vidimus/vidimuslaw24.CountersZero", spec := "countersZero", inPlace := ["internal/bytealg.IndexByteString", "internal/bytealg.IndexString"], unfollowed := true, recurses := true, named := ["vidimus/qualifiers.sequence", "vidimus/qualifiers.oid", "vidimus/qualifiers.ia5", "vidimus/qualifiers.shown", "unicode/utf8.first", "unicode/utf8.acceptRanges", "vidimus/qualifiers.integer", "internal/bytealg.MaxLen"], apart := false, laid := [("unicode/utf8.acceptRanges", laid_unicode_utf8_acceptRanges), ("vidimus/qualifiers.sequence", laid_vidimus_qualifiers_sequence), ("vidimus/qualifiers.oid", laid_vidimus_qualifiers_oid), ("vidimus/qualifiers.ia5", laid_vidimus_qualifiers_ia5), ("vidimus/qualifiers.integer", laid_vidimus_qualifiers_integer), ("vidimus/qualifiers.shown", laid_vidimus_qualifiers_shown), ("unicode/utf8.first", laid_unicode_utf8_first)] }
def CountersZeroSaid : Prop := countersZeroRow.holds Tryz.pinned (OpenSpec.ofChange countersZeroSpec)

/-- ITS FALSE NEIGHBOUR: 'it returns false'. Refute it at one input. -/
def countersZeroWrong : ChangeSpec := { name := "countersZero", fn := fun _ => fun
  | [d1, d2] => { results := [.lit (.bool false)], args := [d1, d2] }
  | _ => none }
def CountersZeroWrongFalsely : Prop := countersZeroRow.holds Tryz.pinned (OpenSpec.ofChange countersZeroWrong)

/-- 'vidimuslaw24.CountersKnown': WHATEVER THE INPUT: true; the input reads as it did. -/
def countersKnownSpec : ChangeSpec := { name := "countersKnown", fn := fun _ => fun
  | [] => { results := [.lit (.bool true)], args := [] }
  | _ => none }
def countersKnownRow : OpenClaim := { program := "ytjgpddbebgndbaagreatdoor", sum := "3af76d7353d8e963653ab29390fe8f5c2714443f72181adabfcbd6d29af3f392", func := "vidimus/vidimuslaw24.CountersKnown", spec := "countersKnown", inPlace := ["internal/bytealg.IndexByteString", "internal/bytealg.IndexString"], unfollowed := true, recurses := true, named := ["vidimus/qualifiers.sequence", "vidimus/qualifiers.oid", "vidimus/qualifiers.ia5", "vidimus/qualifiers.shown", "unicode/utf8.first", "unicode/utf8.acceptRanges", "vidimus/qualifiers.integer", "internal/bytealg.MaxLen"], apart := false, laid := [("unicode/utf8.acceptRanges", laid_unicode_utf8_acceptRanges), ("vidimus/qualifiers.sequence", laid_vidimus_qualifiers_sequence), ("vidimus/qualifiers.oid", laid_vidimus_qualifiers_oid), ("vidimus/qualifiers.ia5", laid_vidimus_qualifiers_ia5), ("vidimus/qualifiers.integer", laid_vidimus_qualifiers_integer), ("vidimus/qualifiers.shown", laid_vidimus_qualifiers_shown), ("unicode/utf8.first", laid_unicode_utf8_first)] }
def CountersKnownSaid : Prop := countersKnownRow.holds Tryz.pinned (OpenSpec.ofChange countersKnownSpec)

/-- ITS FALSE NEIGHBOUR: 'it returns false'. Refute it at one input. -/
def countersKnownWrong : ChangeSpec := { name := "countersKnown", fn := fun _ => fun
  | [] => { results := [.lit (.bool false)], args := [] }
  | _ => none }
def CountersKnownWrongFalsely : Prop := countersKnownRow.holds Tryz.pinned (OpenSpec.ofChange countersKnownWrong)

/-- 'vidimuslaw24.CountersNext': WHATEVER THE INPUT: true; the input reads as it did. -/
def countersNextSpec : ChangeSpec := { name := "countersNext", fn := fun _ => fun
  | [d1, d2] => { results := [.lit (.bool true)], args := [d1, d2] }
  | _ => none }
def countersNextRow : OpenClaim := { program := "ytjgpddbebgndbaagreatdoor", sum := "3af76d7353d8e963653ab29390fe8f5c2714443f72181adabfcbd6d29af3f392", func := "vidimus/vidimuslaw24.CountersNext", spec := "countersNext", inPlace := ["internal/bytealg.IndexByteString", "internal/bytealg.IndexString"], unfollowed := true, recurses := true, named := ["vidimus/qualifiers.sequence", "vidimus/qualifiers.oid", "vidimus/qualifiers.ia5", "vidimus/qualifiers.shown", "unicode/utf8.first", "unicode/utf8.acceptRanges", "vidimus/qualifiers.integer", "internal/bytealg.MaxLen"], apart := false, laid := [("unicode/utf8.acceptRanges", laid_unicode_utf8_acceptRanges), ("vidimus/qualifiers.sequence", laid_vidimus_qualifiers_sequence), ("vidimus/qualifiers.oid", laid_vidimus_qualifiers_oid), ("vidimus/qualifiers.ia5", laid_vidimus_qualifiers_ia5), ("vidimus/qualifiers.integer", laid_vidimus_qualifiers_integer), ("vidimus/qualifiers.shown", laid_vidimus_qualifiers_shown), ("unicode/utf8.first", laid_unicode_utf8_first)] }
def CountersNextSaid : Prop := countersNextRow.holds Tryz.pinned (OpenSpec.ofChange countersNextSpec)

/-- ITS FALSE NEIGHBOUR: 'it returns false'. Refute it at one input. -/
def countersNextWrong : ChangeSpec := { name := "countersNext", fn := fun _ => fun
  | [d1, d2] => { results := [.lit (.bool false)], args := [d1, d2] }
  | _ => none }
def CountersNextWrongFalsely : Prop := countersNextRow.holds Tryz.pinned (OpenSpec.ofChange countersNextWrong)

/-- 'vidimuslaw24.CountersErrors': WHATEVER THE INPUT: true; the input reads as it did. -/
def countersErrorsSpec : ChangeSpec := { name := "countersErrors", fn := fun _ => fun
  | [d1, d2, d3] => { results := [.lit (.bool true)], args := [d1, d2, d3] }
  | _ => none }
def countersErrorsRow : OpenClaim := { program := "ytjgpddbebgndbaagreatdoor", sum := "3af76d7353d8e963653ab29390fe8f5c2714443f72181adabfcbd6d29af3f392", func := "vidimus/vidimuslaw24.CountersErrors", spec := "countersErrors", inPlace := ["internal/bytealg.IndexByteString", "internal/bytealg.IndexString"], unfollowed := true, recurses := true, named := ["vidimus/qualifiers.sequence", "vidimus/qualifiers.oid", "vidimus/qualifiers.ia5", "vidimus/qualifiers.shown", "unicode/utf8.first", "unicode/utf8.acceptRanges", "vidimus/qualifiers.integer", "internal/bytealg.MaxLen"], apart := false, laid := [("unicode/utf8.acceptRanges", laid_unicode_utf8_acceptRanges), ("vidimus/qualifiers.sequence", laid_vidimus_qualifiers_sequence), ("vidimus/qualifiers.oid", laid_vidimus_qualifiers_oid), ("vidimus/qualifiers.ia5", laid_vidimus_qualifiers_ia5), ("vidimus/qualifiers.integer", laid_vidimus_qualifiers_integer), ("vidimus/qualifiers.shown", laid_vidimus_qualifiers_shown), ("unicode/utf8.first", laid_unicode_utf8_first)] }
def CountersErrorsSaid : Prop := countersErrorsRow.holds Tryz.pinned (OpenSpec.ofChange countersErrorsSpec)

/-- ITS FALSE NEIGHBOUR: 'it returns false'. Refute it at one input. -/
def countersErrorsWrong : ChangeSpec := { name := "countersErrors", fn := fun _ => fun
  | [d1, d2, d3] => { results := [.lit (.bool false)], args := [d1, d2, d3] }
  | _ => none }
def CountersErrorsWrongFalsely : Prop := countersErrorsRow.holds Tryz.pinned (OpenSpec.ofChange countersErrorsWrong)

/- THE SECOND FORM. 'bulk': how many values and letters a reading holds, each counted each time it is reached (what is shared counts as often as it is met; a slice's spare places count too). A statement '..UptoSaid' is the law's where the arguments, and the package variables that the reading takes, are together of bulk at most 1048576: NARROWER than '..Said'. Prove '..Said' where nothing that the law and all that it calls make is longer than what came in: it says more and counts as full. Else prove '..UptoSaid'. A law counts once. -/
mutual
def uptoBulk {H : Type} : DataW H → Nat
  | .lit (.string bytes) => bytes.length + 1
  | .lit _ => 1
  | .nil => 1
  | .ptr d => uptoBulk d + 1
  | .slice elems spare => uptoBulkAll elems + uptoBulkAll spare + 1
  | .agg parts => uptoBulkAll parts + 1
  | .iface _ d => uptoBulk d + 1
  | .map entries => uptoBulkEntries entries + 1
  | .held _ => 1
def uptoBulkAll {H : Type} : List (DataW H) → Nat
  | [] => 0
  | d :: r => uptoBulk d + uptoBulkAll r
def uptoBulkEntries {H : Type} : List (Lit × DataW H) → Nat
  | [] => 0
  | x :: r => uptoBulkEntry x + uptoBulkEntries r
def uptoBulkEntry {H : Type} : Lit × DataW H → Nat
  | (.string bytes, d) => bytes.length + uptoBulk d + 1
  | (_, d) => uptoBulk d + 1
 end
def uptoSmall : (H : Type) → List (DataW H) → Bool := fun _ ds => decide (uptoBulkAll ds ≤ 1048576)
def OpenSpec.upto (s : _root_.Go.ChangeSpec) : _root_.Go.OpenSpec := { _root_.Go.OpenSpec.ofChange s with cond := some uptoSmall }

/-- 'vidimuslaw24.CountersStart', WHERE WHAT IT READS IS OF BULK AT MOST 1048576: true; the input reads as it did. -/
def countersStartUptoRow : OpenClaim := { program := "ytjgpddbebgndbaagreatdoor", sum := "3af76d7353d8e963653ab29390fe8f5c2714443f72181adabfcbd6d29af3f392", func := "vidimus/vidimuslaw24.CountersStart", spec := "countersStart", inPlace := ["internal/bytealg.IndexByteString", "internal/bytealg.IndexString"], unfollowed := true, recurses := true, named := ["vidimus/qualifiers.sequence", "vidimus/qualifiers.oid", "vidimus/qualifiers.ia5", "vidimus/qualifiers.shown", "unicode/utf8.first", "unicode/utf8.acceptRanges", "vidimus/qualifiers.integer", "internal/bytealg.MaxLen"], apart := false, laid := [("unicode/utf8.acceptRanges", laid_unicode_utf8_acceptRanges), ("vidimus/qualifiers.sequence", laid_vidimus_qualifiers_sequence), ("vidimus/qualifiers.oid", laid_vidimus_qualifiers_oid), ("vidimus/qualifiers.ia5", laid_vidimus_qualifiers_ia5), ("vidimus/qualifiers.integer", laid_vidimus_qualifiers_integer), ("vidimus/qualifiers.shown", laid_vidimus_qualifiers_shown), ("unicode/utf8.first", laid_unicode_utf8_first)], narrowed := true }
def CountersStartUptoSaid : Prop := countersStartUptoRow.holds Tryz.pinned (OpenSpec.upto countersStartSpec)

/-- 'vidimuslaw24.CountersAll', WHERE WHAT IT READS IS OF BULK AT MOST 1048576: true; the input reads as it did. -/
def countersAllUptoRow : OpenClaim := { program := "ytjgpddbebgndbaagreatdoor", sum := "3af76d7353d8e963653ab29390fe8f5c2714443f72181adabfcbd6d29af3f392", func := "vidimus/vidimuslaw24.CountersAll", spec := "countersAll", inPlace := ["internal/bytealg.IndexByteString", "internal/bytealg.IndexString"], unfollowed := true, recurses := true, named := ["vidimus/qualifiers.sequence", "vidimus/qualifiers.oid", "vidimus/qualifiers.ia5", "vidimus/qualifiers.shown", "unicode/utf8.first", "unicode/utf8.acceptRanges", "vidimus/qualifiers.integer", "internal/bytealg.MaxLen"], apart := false, laid := [("unicode/utf8.acceptRanges", laid_unicode_utf8_acceptRanges), ("vidimus/qualifiers.sequence", laid_vidimus_qualifiers_sequence), ("vidimus/qualifiers.oid", laid_vidimus_qualifiers_oid), ("vidimus/qualifiers.ia5", laid_vidimus_qualifiers_ia5), ("vidimus/qualifiers.integer", laid_vidimus_qualifiers_integer), ("vidimus/qualifiers.shown", laid_vidimus_qualifiers_shown), ("unicode/utf8.first", laid_unicode_utf8_first)], narrowed := true }
def CountersAllUptoSaid : Prop := countersAllUptoRow.holds Tryz.pinned (OpenSpec.upto countersAllSpec)

/-- 'vidimuslaw24.CountersLeast', WHERE WHAT IT READS IS OF BULK AT MOST 1048576: true; the input reads as it did. -/
def countersLeastUptoRow : OpenClaim := { program := "ytjgpddbebgndbaagreatdoor", sum := "3af76d7353d8e963653ab29390fe8f5c2714443f72181adabfcbd6d29af3f392", func := "vidimus/vidimuslaw24.CountersLeast", spec := "countersLeast", inPlace := ["internal/bytealg.IndexByteString", "internal/bytealg.IndexString"], unfollowed := true, recurses := true, named := ["vidimus/qualifiers.sequence", "vidimus/qualifiers.oid", "vidimus/qualifiers.ia5", "vidimus/qualifiers.shown", "unicode/utf8.first", "unicode/utf8.acceptRanges", "vidimus/qualifiers.integer", "internal/bytealg.MaxLen"], apart := false, laid := [("unicode/utf8.acceptRanges", laid_unicode_utf8_acceptRanges), ("vidimus/qualifiers.sequence", laid_vidimus_qualifiers_sequence), ("vidimus/qualifiers.oid", laid_vidimus_qualifiers_oid), ("vidimus/qualifiers.ia5", laid_vidimus_qualifiers_ia5), ("vidimus/qualifiers.integer", laid_vidimus_qualifiers_integer), ("vidimus/qualifiers.shown", laid_vidimus_qualifiers_shown), ("unicode/utf8.first", laid_unicode_utf8_first)], narrowed := true }
def CountersLeastUptoSaid : Prop := countersLeastUptoRow.holds Tryz.pinned (OpenSpec.upto countersLeastSpec)

/-- 'vidimuslaw24.CountersZero', WHERE WHAT IT READS IS OF BULK AT MOST 1048576: true; the input reads as it did. -/
def countersZeroUptoRow : OpenClaim := { program := "ytjgpddbebgndbaagreatdoor", sum := "3af76d7353d8e963653ab29390fe8f5c2714443f72181adabfcbd6d29af3f392", func := "vidimus/vidimuslaw24.CountersZero", spec := "countersZero", inPlace := ["internal/bytealg.IndexByteString", "internal/bytealg.IndexString"], unfollowed := true, recurses := true, named := ["vidimus/qualifiers.sequence", "vidimus/qualifiers.oid", "vidimus/qualifiers.ia5", "vidimus/qualifiers.shown", "unicode/utf8.first", "unicode/utf8.acceptRanges", "vidimus/qualifiers.integer", "internal/bytealg.MaxLen"], apart := false, laid := [("unicode/utf8.acceptRanges", laid_unicode_utf8_acceptRanges), ("vidimus/qualifiers.sequence", laid_vidimus_qualifiers_sequence), ("vidimus/qualifiers.oid", laid_vidimus_qualifiers_oid), ("vidimus/qualifiers.ia5", laid_vidimus_qualifiers_ia5), ("vidimus/qualifiers.integer", laid_vidimus_qualifiers_integer), ("vidimus/qualifiers.shown", laid_vidimus_qualifiers_shown), ("unicode/utf8.first", laid_unicode_utf8_first)], narrowed := true }
def CountersZeroUptoSaid : Prop := countersZeroUptoRow.holds Tryz.pinned (OpenSpec.upto countersZeroSpec)

/-- 'vidimuslaw24.CountersKnown', WHERE WHAT IT READS IS OF BULK AT MOST 1048576: true; the input reads as it did. -/
def countersKnownUptoRow : OpenClaim := { program := "ytjgpddbebgndbaagreatdoor", sum := "3af76d7353d8e963653ab29390fe8f5c2714443f72181adabfcbd6d29af3f392", func := "vidimus/vidimuslaw24.CountersKnown", spec := "countersKnown", inPlace := ["internal/bytealg.IndexByteString", "internal/bytealg.IndexString"], unfollowed := true, recurses := true, named := ["vidimus/qualifiers.sequence", "vidimus/qualifiers.oid", "vidimus/qualifiers.ia5", "vidimus/qualifiers.shown", "unicode/utf8.first", "unicode/utf8.acceptRanges", "vidimus/qualifiers.integer", "internal/bytealg.MaxLen"], apart := false, laid := [("unicode/utf8.acceptRanges", laid_unicode_utf8_acceptRanges), ("vidimus/qualifiers.sequence", laid_vidimus_qualifiers_sequence), ("vidimus/qualifiers.oid", laid_vidimus_qualifiers_oid), ("vidimus/qualifiers.ia5", laid_vidimus_qualifiers_ia5), ("vidimus/qualifiers.integer", laid_vidimus_qualifiers_integer), ("vidimus/qualifiers.shown", laid_vidimus_qualifiers_shown), ("unicode/utf8.first", laid_unicode_utf8_first)], narrowed := true }
def CountersKnownUptoSaid : Prop := countersKnownUptoRow.holds Tryz.pinned (OpenSpec.upto countersKnownSpec)

/-- 'vidimuslaw24.CountersNext', WHERE WHAT IT READS IS OF BULK AT MOST 1048576: true; the input reads as it did. -/
def countersNextUptoRow : OpenClaim := { program := "ytjgpddbebgndbaagreatdoor", sum := "3af76d7353d8e963653ab29390fe8f5c2714443f72181adabfcbd6d29af3f392", func := "vidimus/vidimuslaw24.CountersNext", spec := "countersNext", inPlace := ["internal/bytealg.IndexByteString", "internal/bytealg.IndexString"], unfollowed := true, recurses := true, named := ["vidimus/qualifiers.sequence", "vidimus/qualifiers.oid", "vidimus/qualifiers.ia5", "vidimus/qualifiers.shown", "unicode/utf8.first", "unicode/utf8.acceptRanges", "vidimus/qualifiers.integer", "internal/bytealg.MaxLen"], apart := false, laid := [("unicode/utf8.acceptRanges", laid_unicode_utf8_acceptRanges), ("vidimus/qualifiers.sequence", laid_vidimus_qualifiers_sequence), ("vidimus/qualifiers.oid", laid_vidimus_qualifiers_oid), ("vidimus/qualifiers.ia5", laid_vidimus_qualifiers_ia5), ("vidimus/qualifiers.integer", laid_vidimus_qualifiers_integer), ("vidimus/qualifiers.shown", laid_vidimus_qualifiers_shown), ("unicode/utf8.first", laid_unicode_utf8_first)], narrowed := true }
def CountersNextUptoSaid : Prop := countersNextUptoRow.holds Tryz.pinned (OpenSpec.upto countersNextSpec)

/-- 'vidimuslaw24.CountersErrors', WHERE WHAT IT READS IS OF BULK AT MOST 1048576: true; the input reads as it did. -/
def countersErrorsUptoRow : OpenClaim := { program := "ytjgpddbebgndbaagreatdoor", sum := "3af76d7353d8e963653ab29390fe8f5c2714443f72181adabfcbd6d29af3f392", func := "vidimus/vidimuslaw24.CountersErrors", spec := "countersErrors", inPlace := ["internal/bytealg.IndexByteString", "internal/bytealg.IndexString"], unfollowed := true, recurses := true, named := ["vidimus/qualifiers.sequence", "vidimus/qualifiers.oid", "vidimus/qualifiers.ia5", "vidimus/qualifiers.shown", "unicode/utf8.first", "unicode/utf8.acceptRanges", "vidimus/qualifiers.integer", "internal/bytealg.MaxLen"], apart := false, laid := [("unicode/utf8.acceptRanges", laid_unicode_utf8_acceptRanges), ("vidimus/qualifiers.sequence", laid_vidimus_qualifiers_sequence), ("vidimus/qualifiers.oid", laid_vidimus_qualifiers_oid), ("vidimus/qualifiers.ia5", laid_vidimus_qualifiers_ia5), ("vidimus/qualifiers.integer", laid_vidimus_qualifiers_integer), ("vidimus/qualifiers.shown", laid_vidimus_qualifiers_shown), ("unicode/utf8.first", laid_unicode_utf8_first)], narrowed := true }
def CountersErrorsUptoSaid : Prop := countersErrorsUptoRow.holds Tryz.pinned (OpenSpec.upto countersErrorsSpec)

end Rows
end Go.Proofs.YtjgpddbebgndbaaGreatDoor
