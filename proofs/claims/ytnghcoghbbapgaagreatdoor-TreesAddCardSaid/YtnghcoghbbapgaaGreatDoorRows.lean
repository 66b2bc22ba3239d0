/-
  NARROWER THAN 'FOR EVERY INPUT', by the rows' own cells (each row's printed sentence says how): TreesFind: laid · TreesViews: laid · TreesAdd: laid · TreesDelete: laid · TreesLines: laid · TreesText: laid · TreesKnown: laid.
  DERIVED. THE GIVEN ROWS OF THIS SEAT. 7 by the template 'for every input the law returns true; each argument reads behind the call as it read before'; 0 by the template 'total and deterministic' (their statements: YtnghcoghbbapgaaGreatDoorTotals.lean).
  GIVEN WITH THE SEED: the statements are not yours to turn. If you find one false, say at which input.
  Laid BY PROGRAM, IN A SANDBOX (cutbox-rows.mjs): the forced cells as the released guide's own fill.sh prints them over the translation f33eeee0962083b9… (all of the seat's roots in one cut). By AI agents, Wed Nov 11 2026. No macro, syntax, notation, axiom, sorry.
-/
import Derived.Test.YtnghcoghbbapgaaGreatDoorChecked
import GoSem.PinnedTables
import GoSem.Claim
import GoSem.ClaimJoined
import GoSem.ClaimMapViews
import Derived.JoinedTies
import Derived.KernelRfl
namespace Go.Proofs.YtnghcoghbbapgaaGreatDoor
/- THE CELL 'sum', in the pinned program and in every row, IS THE sha256 OF THE DUMP (.gsa) THAT YtnghcoghbbapgaaGreatDoorProg.lean LOADS. Nothing in Lean hashes anything: it is a label: what it is worth is what the hold of that sum in a sandbox is worth. -/
noncomputable def Tryz.pinned : Pinned := { name := "ytnghcoghbbapgaagreatdoor", sum := "f33eeee0962083b954f784a33a58296a6abe1584ca293b7cef8d98f3894ad757", checked := Tryz.checked }
namespace Rows
def none {H : Type} : Left H := { results := [], args := [] }

/- WHAT THE LISTED PACKAGE-LEVEL VARIABLES READ AS WHEN THE CALL BEGINS. Each datum BY PROGRAM (the guide's laid-datum.mjs) off the statement by which the dump's own 'gosem.cut.vars' lays the variable. In a bare row this is a premise. The card (YtnghcoghbbapgaaGreatDoorCards.lean) ties it to the program's text. -/
def laid_math_bits_deBruijn32tab {H : Type} : DataW H := .agg [.lit (.int .u8 0), .lit (.int .u8 1), .lit (.int .u8 28), .lit (.int .u8 2), .lit (.int .u8 29), .lit (.int .u8 14), .lit (.int .u8 24), .lit (.int .u8 3), .lit (.int .u8 30), .lit (.int .u8 22), .lit (.int .u8 20), .lit (.int .u8 15), .lit (.int .u8 25), .lit (.int .u8 17), .lit (.int .u8 4), .lit (.int .u8 8), .lit (.int .u8 31), .lit (.int .u8 27), .lit (.int .u8 13), .lit (.int .u8 23), .lit (.int .u8 21), .lit (.int .u8 19), .lit (.int .u8 16), .lit (.int .u8 7), .lit (.int .u8 26), .lit (.int .u8 12), .lit (.int .u8 18), .lit (.int .u8 6), .lit (.int .u8 11), .lit (.int .u8 5), .lit (.int .u8 10), .lit (.int .u8 9)]
def laid_math_bits_deBruijn64tab {H : Type} : DataW H := .agg [.lit (.int .u8 0), .lit (.int .u8 1), .lit (.int .u8 56), .lit (.int .u8 2), .lit (.int .u8 57), .lit (.int .u8 49), .lit (.int .u8 28), .lit (.int .u8 3), .lit (.int .u8 61), .lit (.int .u8 58), .lit (.int .u8 42), .lit (.int .u8 50), .lit (.int .u8 38), .lit (.int .u8 29), .lit (.int .u8 17), .lit (.int .u8 4), .lit (.int .u8 62), .lit (.int .u8 47), .lit (.int .u8 59), .lit (.int .u8 36), .lit (.int .u8 45), .lit (.int .u8 43), .lit (.int .u8 51), .lit (.int .u8 22), .lit (.int .u8 53), .lit (.int .u8 39), .lit (.int .u8 33), .lit (.int .u8 30), .lit (.int .u8 24), .lit (.int .u8 18), .lit (.int .u8 12), .lit (.int .u8 5), .lit (.int .u8 63), .lit (.int .u8 55), .lit (.int .u8 48), .lit (.int .u8 27), .lit (.int .u8 60), .lit (.int .u8 41), .lit (.int .u8 37), .lit (.int .u8 16), .lit (.int .u8 46), .lit (.int .u8 35), .lit (.int .u8 44), .lit (.int .u8 21), .lit (.int .u8 52), .lit (.int .u8 32), .lit (.int .u8 23), .lit (.int .u8 11), .lit (.int .u8 54), .lit (.int .u8 26), .lit (.int .u8 40), .lit (.int .u8 15), .lit (.int .u8 34), .lit (.int .u8 20), .lit (.int .u8 31), .lit (.int .u8 10), .lit (.int .u8 25), .lit (.int .u8 14), .lit (.int .u8 19), .lit (.int .u8 9), .lit (.int .u8 13), .lit (.int .u8 8), .lit (.int .u8 7), .lit (.int .u8 6)]
def laid_internal_strconv_uint64pow10 {H : Type} : DataW H := .agg [.lit (.int .u64 1), .lit (.int .u64 10), .lit (.int .u64 100), .lit (.int .u64 1000), .lit (.int .u64 10000), .lit (.int .u64 100000), .lit (.int .u64 1000000), .lit (.int .u64 10000000), .lit (.int .u64 100000000), .lit (.int .u64 1000000000), .lit (.int .u64 10000000000), .lit (.int .u64 100000000000), .lit (.int .u64 1000000000000), .lit (.int .u64 10000000000000), .lit (.int .u64 100000000000000), .lit (.int .u64 1000000000000000), .lit (.int .u64 10000000000000000), .lit (.int .u64 100000000000000000), .lit (.int .u64 1000000000000000000), .lit (.int .u64 10000000000000000000)]
def laid_unicode_utf8_acceptRanges {H : Type} : DataW H := .agg [.agg [.lit (.int .u8 128), .lit (.int .u8 191)], .agg [.lit (.int .u8 160), .lit (.int .u8 191)], .agg [.lit (.int .u8 128), .lit (.int .u8 159)], .agg [.lit (.int .u8 144), .lit (.int .u8 191)], .agg [.lit (.int .u8 128), .lit (.int .u8 143)], .agg [.lit (.int .u8 0), .lit (.int .u8 0)], .agg [.lit (.int .u8 0), .lit (.int .u8 0)], .agg [.lit (.int .u8 0), .lit (.int .u8 0)], .agg [.lit (.int .u8 0), .lit (.int .u8 0)], .agg [.lit (.int .u8 0), .lit (.int .u8 0)], .agg [.lit (.int .u8 0), .lit (.int .u8 0)], .agg [.lit (.int .u8 0), .lit (.int .u8 0)], .agg [.lit (.int .u8 0), .lit (.int .u8 0)], .agg [.lit (.int .u8 0), .lit (.int .u8 0)], .agg [.lit (.int .u8 0), .lit (.int .u8 0)], .agg [.lit (.int .u8 0), .lit (.int .u8 0)]]
def laid_vidimus_qualifiers_sequence {H : Type} : DataW H := .agg [.lit (.int .u8 0), .lit (.bool true), .lit (.int .u32 16)]
def laid_vidimus_qualifiers_oid {H : Type} : DataW H := .agg [.lit (.int .u8 0), .lit (.bool false), .lit (.int .u32 6)]
def laid_vidimus_qualifiers_ia5 {H : Type} : DataW H := .agg [.lit (.int .u8 0), .lit (.bool false), .lit (.int .u32 22)]
def laid_vidimus_qualifiers_integer {H : Type} : DataW H := .agg [.lit (.int .u8 0), .lit (.bool false), .lit (.int .u32 2)]
def laid_vidimus_qualifiers_shown {H : Type} : DataW H := .agg [.lit (.int .u32 12), .lit (.int .u32 22), .lit (.int .u32 26), .lit (.int .u32 30)]
/-- One of Go's own tables, pinned by name: the form's constant. -/
def laid_unicode_utf8_first : DataW Unit := Go.Pinned.utf8First

/-- 'vidimuslaw26.TreesFind': WHATEVER THE INPUT: true; the input reads as it did. -/
def treesFindSpec : ChangeSpec := { name := "treesFind", fn := fun _ => fun
  | [d1, d2] => { results := [.lit (.bool true)], args := [d1, d2] }
  | _ => none }
def treesFindRow : OpenClaim := { program := "ytnghcoghbbapgaagreatdoor", sum := "f33eeee0962083b954f784a33a58296a6abe1584ca293b7cef8d98f3894ad757", func := "vidimus/vidimuslaw26.TreesFind", spec := "treesFind", inPlace := ["internal/bytealg.IndexByteString", "internal/bytealg.IndexString", "internal/abi.NoEscape", "internal/bytealg.MakeNoZero"], unfollowed := true, recurses := true, named := ["vidimus/qualifiers.sequence", "vidimus/qualifiers.oid", "vidimus/qualifiers.ia5", "vidimus/qualifiers.shown", "unicode/utf8.first", "unicode/utf8.acceptRanges", "vidimus/qualifiers.integer", "internal/strconv.uint64pow10", "math/bits.deBruijn32tab", "math/bits.deBruijn64tab", "internal/bytealg.MaxLen"], plainKeys := false, apart := false, laid := [("math/bits.deBruijn32tab", laid_math_bits_deBruijn32tab), ("math/bits.deBruijn64tab", laid_math_bits_deBruijn64tab), ("internal/strconv.uint64pow10", laid_internal_strconv_uint64pow10), ("unicode/utf8.acceptRanges", laid_unicode_utf8_acceptRanges), ("vidimus/qualifiers.sequence", laid_vidimus_qualifiers_sequence), ("vidimus/qualifiers.oid", laid_vidimus_qualifiers_oid), ("vidimus/qualifiers.ia5", laid_vidimus_qualifiers_ia5), ("vidimus/qualifiers.integer", laid_vidimus_qualifiers_integer), ("vidimus/qualifiers.shown", laid_vidimus_qualifiers_shown), ("unicode/utf8.first", laid_unicode_utf8_first)] }
def TreesFindSaid : Prop := treesFindRow.holds Tryz.pinned (OpenSpec.ofChange treesFindSpec)

/-- ITS FALSE NEIGHBOUR: 'it returns false'. Refute it at one input. -/
def treesFindWrong : ChangeSpec := { name := "treesFind", fn := fun _ => fun
  | [d1, d2] => { results := [.lit (.bool false)], args := [d1, d2] }
  | _ => none }
def TreesFindWrongFalsely : Prop := treesFindRow.holds Tryz.pinned (OpenSpec.ofChange treesFindWrong)

/-- 'vidimuslaw26.TreesViews': WHATEVER THE INPUT: true; the input reads as it did. -/
def treesViewsSpec : ChangeSpec := { name := "treesViews", fn := fun _ => fun
  | [d1, d2] => { results := [.lit (.bool true)], args := [d1, d2] }
  | _ => none }
def treesViewsRow : OpenClaim := { program := "ytnghcoghbbapgaagreatdoor", sum := "f33eeee0962083b954f784a33a58296a6abe1584ca293b7cef8d98f3894ad757", func := "vidimus/vidimuslaw26.TreesViews", spec := "treesViews", inPlace := ["internal/bytealg.IndexByteString", "internal/bytealg.IndexString", "internal/abi.NoEscape", "internal/bytealg.MakeNoZero"], unfollowed := true, recurses := true, named := ["unicode/utf8.first", "unicode/utf8.acceptRanges", "vidimus/qualifiers.sequence", "vidimus/qualifiers.oid", "vidimus/qualifiers.ia5", "vidimus/qualifiers.shown", "vidimus/qualifiers.integer", "internal/strconv.uint64pow10", "math/bits.deBruijn32tab", "math/bits.deBruijn64tab", "internal/bytealg.MaxLen"], plainKeys := false, apart := false, laid := [("math/bits.deBruijn32tab", laid_math_bits_deBruijn32tab), ("math/bits.deBruijn64tab", laid_math_bits_deBruijn64tab), ("internal/strconv.uint64pow10", laid_internal_strconv_uint64pow10), ("unicode/utf8.acceptRanges", laid_unicode_utf8_acceptRanges), ("vidimus/qualifiers.sequence", laid_vidimus_qualifiers_sequence), ("vidimus/qualifiers.oid", laid_vidimus_qualifiers_oid), ("vidimus/qualifiers.ia5", laid_vidimus_qualifiers_ia5), ("vidimus/qualifiers.integer", laid_vidimus_qualifiers_integer), ("vidimus/qualifiers.shown", laid_vidimus_qualifiers_shown), ("unicode/utf8.first", laid_unicode_utf8_first)] }
def TreesViewsSaid : Prop := treesViewsRow.holds Tryz.pinned (OpenSpec.ofChange treesViewsSpec)

/-- ITS FALSE NEIGHBOUR: 'it returns false'. Refute it at one input. -/
def treesViewsWrong : ChangeSpec := { name := "treesViews", fn := fun _ => fun
  | [d1, d2] => { results := [.lit (.bool false)], args := [d1, d2] }
  | _ => none }
def TreesViewsWrongFalsely : Prop := treesViewsRow.holds Tryz.pinned (OpenSpec.ofChange treesViewsWrong)

/-- 'vidimuslaw26.TreesAdd': WHATEVER THE INPUT: true; the input reads as it did. -/
def treesAddSpec : ChangeSpec := { name := "treesAdd", fn := fun _ => fun
  | [d1, d2] => { results := [.lit (.bool true)], args := [d1, d2] }
  | _ => none }
def treesAddRow : OpenClaim := { program := "ytnghcoghbbapgaagreatdoor", sum := "f33eeee0962083b954f784a33a58296a6abe1584ca293b7cef8d98f3894ad757", func := "vidimus/vidimuslaw26.TreesAdd", spec := "treesAdd", inPlace := ["internal/bytealg.IndexByteString", "internal/bytealg.IndexString", "internal/abi.NoEscape", "internal/bytealg.MakeNoZero"], unfollowed := true, recurses := true, named := ["vidimus/qualifiers.sequence", "vidimus/qualifiers.oid", "vidimus/qualifiers.ia5", "vidimus/qualifiers.shown", "unicode/utf8.first", "unicode/utf8.acceptRanges", "vidimus/qualifiers.integer", "internal/strconv.uint64pow10", "math/bits.deBruijn32tab", "math/bits.deBruijn64tab", "internal/bytealg.MaxLen"], plainKeys := false, apart := false, laid := [("math/bits.deBruijn32tab", laid_math_bits_deBruijn32tab), ("math/bits.deBruijn64tab", laid_math_bits_deBruijn64tab), ("internal/strconv.uint64pow10", laid_internal_strconv_uint64pow10), ("unicode/utf8.acceptRanges", laid_unicode_utf8_acceptRanges), ("vidimus/qualifiers.sequence", laid_vidimus_qualifiers_sequence), ("vidimus/qualifiers.oid", laid_vidimus_qualifiers_oid), ("vidimus/qualifiers.ia5", laid_vidimus_qualifiers_ia5), ("vidimus/qualifiers.integer", laid_vidimus_qualifiers_integer), ("vidimus/qualifiers.shown", laid_vidimus_qualifiers_shown), ("unicode/utf8.first", laid_unicode_utf8_first)] }
def TreesAddSaid : Prop := treesAddRow.holds Tryz.pinned (OpenSpec.ofChange treesAddSpec)

/-- ITS FALSE NEIGHBOUR: 'it returns false'. Refute it at one input. -/
def treesAddWrong : ChangeSpec := { name := "treesAdd", fn := fun _ => fun
  | [d1, d2] => { results := [.lit (.bool false)], args := [d1, d2] }
  | _ => none }
def TreesAddWrongFalsely : Prop := treesAddRow.holds Tryz.pinned (OpenSpec.ofChange treesAddWrong)

/-- 'vidimuslaw26.TreesDelete': WHATEVER THE INPUT: true; the input reads as it did. -/
def treesDeleteSpec : ChangeSpec := { name := "treesDelete", fn := fun _ => fun
  | [d1, d2] => { results := [.lit (.bool true)], args := [d1, d2] }
  | _ => none }
def treesDeleteRow : OpenClaim := { program := "ytnghcoghbbapgaagreatdoor", sum := "f33eeee0962083b954f784a33a58296a6abe1584ca293b7cef8d98f3894ad757", func := "vidimus/vidimuslaw26.TreesDelete", spec := "treesDelete", inPlace := ["internal/bytealg.IndexByteString", "internal/bytealg.IndexString", "internal/abi.NoEscape", "internal/bytealg.MakeNoZero"], unfollowed := true, recurses := true, named := ["vidimus/qualifiers.sequence", "vidimus/qualifiers.oid", "vidimus/qualifiers.ia5", "vidimus/qualifiers.shown", "unicode/utf8.first", "unicode/utf8.acceptRanges", "vidimus/qualifiers.integer", "internal/strconv.uint64pow10", "math/bits.deBruijn32tab", "math/bits.deBruijn64tab", "internal/bytealg.MaxLen"], plainKeys := false, apart := false, laid := [("math/bits.deBruijn32tab", laid_math_bits_deBruijn32tab), ("math/bits.deBruijn64tab", laid_math_bits_deBruijn64tab), ("internal/strconv.uint64pow10", laid_internal_strconv_uint64pow10), ("unicode/utf8.acceptRanges", laid_unicode_utf8_acceptRanges), ("vidimus/qualifiers.sequence", laid_vidimus_qualifiers_sequence), ("vidimus/qualifiers.oid", laid_vidimus_qualifiers_oid), ("vidimus/qualifiers.ia5", laid_vidimus_qualifiers_ia5), ("vidimus/qualifiers.integer", laid_vidimus_qualifiers_integer), ("vidimus/qualifiers.shown", laid_vidimus_qualifiers_shown), ("unicode/utf8.first", laid_unicode_utf8_first)] }
def TreesDeleteSaid : Prop := treesDeleteRow.holds Tryz.pinned (OpenSpec.ofChange treesDeleteSpec)

/-- ITS FALSE NEIGHBOUR: 'it returns false'. Refute it at one input. -/
def treesDeleteWrong : ChangeSpec := { name := "treesDelete", fn := fun _ => fun
  | [d1, d2] => { results := [.lit (.bool false)], args := [d1, d2] }
  | _ => none }
def TreesDeleteWrongFalsely : Prop := treesDeleteRow.holds Tryz.pinned (OpenSpec.ofChange treesDeleteWrong)

/-- 'vidimuslaw26.TreesLines': WHATEVER THE INPUT: true; the input reads as it did. -/
def treesLinesSpec : ChangeSpec := { name := "treesLines", fn := fun _ => fun
  | [d1, d2] => { results := [.lit (.bool true)], args := [d1, d2] }
  | _ => none }
def treesLinesRow : OpenClaim := { program := "ytnghcoghbbapgaagreatdoor", sum := "f33eeee0962083b954f784a33a58296a6abe1584ca293b7cef8d98f3894ad757", func := "vidimus/vidimuslaw26.TreesLines", spec := "treesLines", inPlace := ["internal/bytealg.IndexByteString", "internal/bytealg.IndexString", "internal/abi.NoEscape", "internal/bytealg.MakeNoZero"], unfollowed := true, recurses := true, named := ["unicode/utf8.first", "unicode/utf8.acceptRanges", "vidimus/qualifiers.sequence", "vidimus/qualifiers.oid", "vidimus/qualifiers.ia5", "vidimus/qualifiers.shown", "vidimus/qualifiers.integer", "internal/strconv.uint64pow10", "math/bits.deBruijn32tab", "math/bits.deBruijn64tab", "internal/bytealg.MaxLen"], plainKeys := false, apart := false, laid := [("math/bits.deBruijn32tab", laid_math_bits_deBruijn32tab), ("math/bits.deBruijn64tab", laid_math_bits_deBruijn64tab), ("internal/strconv.uint64pow10", laid_internal_strconv_uint64pow10), ("unicode/utf8.acceptRanges", laid_unicode_utf8_acceptRanges), ("vidimus/qualifiers.sequence", laid_vidimus_qualifiers_sequence), ("vidimus/qualifiers.oid", laid_vidimus_qualifiers_oid), ("vidimus/qualifiers.ia5", laid_vidimus_qualifiers_ia5), ("vidimus/qualifiers.integer", laid_vidimus_qualifiers_integer), ("vidimus/qualifiers.shown", laid_vidimus_qualifiers_shown), ("unicode/utf8.first", laid_unicode_utf8_first)] }
def TreesLinesSaid : Prop := treesLinesRow.holds Tryz.pinned (OpenSpec.ofChange treesLinesSpec)

/-- ITS FALSE NEIGHBOUR: 'it returns false'. Refute it at one input. -/
def treesLinesWrong : ChangeSpec := { name := "treesLines", fn := fun _ => fun
  | [d1, d2] => { results := [.lit (.bool false)], args := [d1, d2] }
  | _ => none }
def TreesLinesWrongFalsely : Prop := treesLinesRow.holds Tryz.pinned (OpenSpec.ofChange treesLinesWrong)

/-- 'vidimuslaw26.TreesText': WHATEVER THE INPUT: true; the input reads as it did. -/
def treesTextSpec : ChangeSpec := { name := "treesText", fn := fun _ => fun
  | [d1, d2] => { results := [.lit (.bool true)], args := [d1, d2] }
  | _ => none }
def treesTextRow : OpenClaim := { program := "ytnghcoghbbapgaagreatdoor", sum := "f33eeee0962083b954f784a33a58296a6abe1584ca293b7cef8d98f3894ad757", func := "vidimus/vidimuslaw26.TreesText", spec := "treesText", inPlace := ["internal/bytealg.IndexByteString", "internal/bytealg.IndexString", "internal/abi.NoEscape", "internal/bytealg.MakeNoZero"], unfollowed := true, recurses := true, named := ["unicode/utf8.first", "unicode/utf8.acceptRanges", "vidimus/qualifiers.sequence", "vidimus/qualifiers.oid", "vidimus/qualifiers.ia5", "vidimus/qualifiers.shown", "vidimus/qualifiers.integer", "internal/strconv.uint64pow10", "math/bits.deBruijn32tab", "math/bits.deBruijn64tab", "internal/bytealg.MaxLen"], plainKeys := false, apart := false, laid := [("math/bits.deBruijn32tab", laid_math_bits_deBruijn32tab), ("math/bits.deBruijn64tab", laid_math_bits_deBruijn64tab), ("internal/strconv.uint64pow10", laid_internal_strconv_uint64pow10), ("unicode/utf8.acceptRanges", laid_unicode_utf8_acceptRanges), ("vidimus/qualifiers.sequence", laid_vidimus_qualifiers_sequence), ("vidimus/qualifiers.oid", laid_vidimus_qualifiers_oid), ("vidimus/qualifiers.ia5", laid_vidimus_qualifiers_ia5), ("vidimus/qualifiers.integer", laid_vidimus_qualifiers_integer), ("vidimus/qualifiers.shown", laid_vidimus_qualifiers_shown), ("unicode/utf8.first", laid_unicode_utf8_first)] }
def TreesTextSaid : Prop := treesTextRow.holds Tryz.pinned (OpenSpec.ofChange treesTextSpec)

/-- ITS FALSE NEIGHBOUR: 'it returns false'. Refute it at one input. -/
def treesTextWrong : ChangeSpec := { name := "treesText", fn := fun _ => fun
  | [d1, d2] => { results := [.lit (.bool false)], args := [d1, d2] }
  | _ => none }
def TreesTextWrongFalsely : Prop := treesTextRow.holds Tryz.pinned (OpenSpec.ofChange treesTextWrong)

/-- 'vidimuslaw26.TreesKnown': WHATEVER THE INPUT: true; the input reads as it did. -/
def treesKnownSpec : ChangeSpec := { name := "treesKnown", fn := fun _ => fun
  | [] => { results := [.lit (.bool true)], args := [] }
  | _ => none }
def treesKnownRow : OpenClaim := { program := "ytnghcoghbbapgaagreatdoor", sum := "f33eeee0962083b954f784a33a58296a6abe1584ca293b7cef8d98f3894ad757", func := "vidimus/vidimuslaw26.TreesKnown", spec := "treesKnown", inPlace := ["internal/bytealg.IndexByteString", "internal/bytealg.IndexString", "internal/abi.NoEscape", "internal/bytealg.MakeNoZero"], unfollowed := true, recurses := true, named := ["vidimus/qualifiers.sequence", "vidimus/qualifiers.oid", "vidimus/qualifiers.ia5", "vidimus/qualifiers.shown", "unicode/utf8.first", "unicode/utf8.acceptRanges", "vidimus/qualifiers.integer", "internal/strconv.uint64pow10", "math/bits.deBruijn32tab", "math/bits.deBruijn64tab", "internal/bytealg.MaxLen"], plainKeys := false, apart := false, laid := [("math/bits.deBruijn32tab", laid_math_bits_deBruijn32tab), ("math/bits.deBruijn64tab", laid_math_bits_deBruijn64tab), ("internal/strconv.uint64pow10", laid_internal_strconv_uint64pow10), ("unicode/utf8.acceptRanges", laid_unicode_utf8_acceptRanges), ("vidimus/qualifiers.sequence", laid_vidimus_qualifiers_sequence), ("vidimus/qualifiers.oid", laid_vidimus_qualifiers_oid), ("vidimus/qualifiers.ia5", laid_vidimus_qualifiers_ia5), ("vidimus/qualifiers.integer", laid_vidimus_qualifiers_integer), ("vidimus/qualifiers.shown", laid_vidimus_qualifiers_shown), ("unicode/utf8.first", laid_unicode_utf8_first)] }
def TreesKnownSaid : Prop := treesKnownRow.holds Tryz.pinned (OpenSpec.ofChange treesKnownSpec)

/-- ITS FALSE NEIGHBOUR: 'it returns false'. Refute it at one input. -/
def treesKnownWrong : ChangeSpec := { name := "treesKnown", fn := fun _ => fun
  | [] => { results := [.lit (.bool false)], args := [] }
  | _ => none }
def TreesKnownWrongFalsely : Prop := treesKnownRow.holds Tryz.pinned (OpenSpec.ofChange treesKnownWrong)

/- THE SECOND FORM. 'bulk': how many values and letters a reading holds, each counted each time it is reached (what is shared counts as often as it is met; a slice's spare places count too). A statement '..UptoSaid' is the law's where the arguments, and the package variables that the reading takes, are together of bulk at most 1048576: NARROWER than '..Said'. Prove '..Said' where nothing that the law and all that it calls make is longer than what came in: it says more and counts as full. Else prove '..UptoSaid'. A law counts once. -/
mutual
def uptoBulk {H : Type} : DataW H → Nat
  | .lit (.string bytes) => bytes.length + 1
  | .lit _ => 1
  | .nil => 1
  | .ptr d => uptoBulk d + 1
  | .slice elems spare => uptoBulkAll elems + uptoBulkAll spare + 1
  | .agg parts => uptoBulkAll parts + 1
  | .iface _ d => uptoBulk d + 1
  | .map entries => uptoBulkEntries entries + 1
  | .held _ => 1
def uptoBulkAll {H : Type} : List (DataW H) → Nat
  | [] => 0
  | d :: r => uptoBulk d + uptoBulkAll r
def uptoBulkEntries {H : Type} : List (Lit × DataW H) → Nat
  | [] => 0
  | x :: r => uptoBulkEntry x + uptoBulkEntries r
def uptoBulkEntry {H : Type} : Lit × DataW H → Nat
  | (.string bytes, d) => bytes.length + uptoBulk d + 1
  | (_, d) => uptoBulk d + 1
 end
def uptoSmall : (H : Type) → List (DataW H) → Bool := fun _ ds => decide (uptoBulkAll ds ≤ 1048576)
def OpenSpec.upto (s : _root_.Go.ChangeSpec) : _root_.Go.OpenSpec := { _root_.Go.OpenSpec.ofChange s with cond := some uptoSmall }

/-- 'vidimuslaw26.TreesFind', WHERE WHAT IT READS IS OF BULK AT MOST 1048576: true; the input reads as it did. -/
def treesFindUptoRow : OpenClaim := { program := "ytnghcoghbbapgaagreatdoor", sum := "f33eeee0962083b954f784a33a58296a6abe1584ca293b7cef8d98f3894ad757", func := "vidimus/vidimuslaw26.TreesFind", spec := "treesFind", inPlace := ["internal/bytealg.IndexByteString", "internal/bytealg.IndexString", "internal/abi.NoEscape", "internal/bytealg.MakeNoZero"], unfollowed := true, recurses := true, named := ["vidimus/qualifiers.sequence", "vidimus/qualifiers.oid", "vidimus/qualifiers.ia5", "vidimus/qualifiers.shown", "unicode/utf8.first", "unicode/utf8.acceptRanges", "vidimus/qualifiers.integer", "internal/strconv.uint64pow10", "math/bits.deBruijn32tab", "math/bits.deBruijn64tab", "internal/bytealg.MaxLen"], plainKeys := false, apart := false, laid := [("math/bits.deBruijn32tab", laid_math_bits_deBruijn32tab), ("math/bits.deBruijn64tab", laid_math_bits_deBruijn64tab), ("internal/strconv.uint64pow10", laid_internal_strconv_uint64pow10), ("unicode/utf8.acceptRanges", laid_unicode_utf8_acceptRanges), ("vidimus/qualifiers.sequence", laid_vidimus_qualifiers_sequence), ("vidimus/qualifiers.oid", laid_vidimus_qualifiers_oid), ("vidimus/qualifiers.ia5", laid_vidimus_qualifiers_ia5), ("vidimus/qualifiers.integer", laid_vidimus_qualifiers_integer), ("vidimus/qualifiers.shown", laid_vidimus_qualifiers_shown), ("unicode/utf8.first", laid_unicode_utf8_first)], narrowed := true }
def TreesFindUptoSaid : Prop := treesFindUptoRow.holds Tryz.pinned (OpenSpec.upto treesFindSpec)

/-- 'vidimuslaw26.TreesViews', WHERE WHAT IT READS IS OF BULK AT MOST 1048576: true; the input reads as it did. -/
def treesViewsUptoRow : OpenClaim := { program := "ytnghcoghbbapgaagreatdoor", sum := "f33eeee0962083b954f784a33a58296a6abe1584ca293b7cef8d98f3894ad757", func := "vidimus/vidimuslaw26.TreesViews", spec := "treesViews", inPlace := ["internal/bytealg.IndexByteString", "internal/bytealg.IndexString", "internal/abi.NoEscape", "internal/bytealg.MakeNoZero"], unfollowed := true, recurses := true, named := ["unicode/utf8.first", "unicode/utf8.acceptRanges", "vidimus/qualifiers.sequence", "vidimus/qualifiers.oid", "vidimus/qualifiers.ia5", "vidimus/qualifiers.shown", "vidimus/qualifiers.integer", "internal/strconv.uint64pow10", "math/bits.deBruijn32tab", "math/bits.deBruijn64tab", "internal/bytealg.MaxLen"], plainKeys := false, apart := false, laid := [("math/bits.deBruijn32tab", laid_math_bits_deBruijn32tab), ("math/bits.deBruijn64tab", laid_math_bits_deBruijn64tab), ("internal/strconv.uint64pow10", laid_internal_strconv_uint64pow10), ("unicode/utf8.acceptRanges", laid_unicode_utf8_acceptRanges), ("vidimus/qualifiers.sequence", laid_vidimus_qualifiers_sequence), ("vidimus/qualifiers.oid", laid_vidimus_qualifiers_oid), ("vidimus/qualifiers.ia5", laid_vidimus_qualifiers_ia5), ("vidimus/qualifiers.integer", laid_vidimus_qualifiers_integer), ("vidimus/qualifiers.shown", laid_vidimus_qualifiers_shown), ("unicode/utf8.first", laid_unicode_utf8_first)], narrowed := true }
def TreesViewsUptoSaid : Prop := treesViewsUptoRow.holds Tryz.pinned (OpenSpec.upto treesViewsSpec)

/-- 'vidimuslaw26.TreesAdd', WHERE WHAT IT READS IS OF BULK AT MOST 1048576: true; the input reads as it did. -/
def treesAddUptoRow : OpenClaim := { program := "ytnghcoghbbapgaagreatdoor", sum := "f33eeee0962083b954f784a33a58296a6abe1584ca293b7cef8d98f3894ad757", func := "vidimus/vidimuslaw26.TreesAdd", spec := "treesAdd", inPlace := ["internal/bytealg.IndexByteString", "internal/bytealg.IndexString", "internal/abi.NoEscape", "internal/bytealg.MakeNoZero"], unfollowed := true, recurses := true, named := ["vidimus/qualifiers.sequence", "vidimus/qualifiers.oid", "vidimus/qualifiers.ia5", "vidimus/qualifiers.shown", "unicode/utf8.first", "unicode/utf8.acceptRanges", "vidimus/qualifiers.integer", "internal/strconv.uint64pow10", "math/bits.deBruijn32tab", "math/bits.deBruijn64tab", "internal/bytealg.MaxLen"], plainKeys := false, apart := false, laid := [("math/bits.deBruijn32tab", laid_math_bits_deBruijn32tab), ("math/bits.deBruijn64tab", laid_math_bits_deBruijn64tab), ("internal/strconv.uint64pow10", laid_internal_strconv_uint64pow10), ("unicode/utf8.acceptRanges", laid_unicode_utf8_acceptRanges), ("vidimus/qualifiers.sequence", laid_vidimus_qualifiers_sequence), ("vidimus/qualifiers.oid", laid_vidimus_qualifiers_oid), ("vidimus/qualifiers.ia5", laid_vidimus_qualifiers_ia5), ("vidimus/qualifiers.integer", laid_vidimus_qualifiers_integer), ("vidimus/qualifiers.shown", laid_vidimus_qualifiers_shown), ("unicode/utf8.first", laid_unicode_utf8_first)], narrowed := true }
def TreesAddUptoSaid : Prop := treesAddUptoRow.holds Tryz.pinned (OpenSpec.upto treesAddSpec)

/-- 'vidimuslaw26.TreesDelete', WHERE WHAT IT READS IS OF BULK AT MOST 1048576: true; the input reads as it did. -/
def treesDeleteUptoRow : OpenClaim := { program := "ytnghcoghbbapgaagreatdoor", sum := "f33eeee0962083b954f784a33a58296a6abe1584ca293b7cef8d98f3894ad757", func := "vidimus/vidimuslaw26.TreesDelete", spec := "treesDelete", inPlace := ["internal/bytealg.IndexByteString", "internal/bytealg.IndexString", "internal/abi.NoEscape", "internal/bytealg.MakeNoZero"], unfollowed := true, recurses := true, named := ["vidimus/qualifiers.sequence", "vidimus/qualifiers.oid", "vidimus/qualifiers.ia5", "vidimus/qualifiers.shown", "unicode/utf8.first", "unicode/utf8.acceptRanges", "vidimus/qualifiers.integer", "internal/strconv.uint64pow10", "math/bits.deBruijn32tab", "math/bits.deBruijn64tab", "internal/bytealg.MaxLen"], plainKeys := false, apart := false, laid := [("math/bits.deBruijn32tab", laid_math_bits_deBruijn32tab), ("math/bits.deBruijn64tab", laid_math_bits_deBruijn64tab), ("internal/strconv.uint64pow10", laid_internal_strconv_uint64pow10), ("unicode/utf8.acceptRanges", laid_unicode_utf8_acceptRanges), ("vidimus/qualifiers.sequence", laid_vidimus_qualifiers_sequence), ("vidimus/qualifiers.oid", laid_vidimus_qualifiers_oid), ("vidimus/qualifiers.ia5", laid_vidimus_qualifiers_ia5), ("vidimus/qualifiers.integer", laid_vidimus_qualifiers_integer), ("vidimus/qualifiers.shown", laid_vidimus_qualifiers_shown), ("unicode/utf8.first", laid_unicode_utf8_first)], narrowed := true }
def TreesDeleteUptoSaid : Prop := treesDeleteUptoRow.holds Tryz.pinned (OpenSpec.upto treesDeleteSpec)

/-- 'vidimuslaw26.TreesLines', WHERE WHAT IT READS IS OF BULK AT MOST 1048576: true; the input reads as it did. -/
def treesLinesUptoRow : OpenClaim := { program := "ytnghcoghbbapgaagreatdoor", sum := "f33eeee0962083b954f784a33a58296a6abe1584ca293b7cef8d98f3894ad757", func := "vidimus/vidimuslaw26.TreesLines", spec := "treesLines", inPlace := ["internal/bytealg.IndexByteString", "internal/bytealg.IndexString", "internal/abi.NoEscape", "internal/bytealg.MakeNoZero"], unfollowed := true, recurses := true, named := ["unicode/utf8.first", "unicode/utf8.acceptRanges", "vidimus/qualifiers.sequence", "vidimus/qualifiers.oid", "vidimus/qualifiers.ia5", "vidimus/qualifiers.shown", "vidimus/qualifiers.integer", "internal/strconv.uint64pow10", "math/bits.deBruijn32tab", "math/bits.deBruijn64tab", "internal/bytealg.MaxLen"], plainKeys := false, apart := false, laid := [("math/bits.deBruijn32tab", laid_math_bits_deBruijn32tab), ("math/bits.deBruijn64tab", laid_math_bits_deBruijn64tab), ("internal/strconv.uint64pow10", laid_internal_strconv_uint64pow10), ("unicode/utf8.acceptRanges", laid_unicode_utf8_acceptRanges), ("vidimus/qualifiers.sequence", laid_vidimus_qualifiers_sequence), ("vidimus/qualifiers.oid", laid_vidimus_qualifiers_oid), ("vidimus/qualifiers.ia5", laid_vidimus_qualifiers_ia5), ("vidimus/qualifiers.integer", laid_vidimus_qualifiers_integer), ("vidimus/qualifiers.shown", laid_vidimus_qualifiers_shown), ("unicode/utf8.first", laid_unicode_utf8_first)], narrowed := true }
def TreesLinesUptoSaid : Prop := treesLinesUptoRow.holds Tryz.pinned (OpenSpec.upto treesLinesSpec)

/-- 'vidimuslaw26.TreesText', WHERE WHAT IT READS IS OF BULK AT MOST 1048576: true; the input reads as it did. -/
def treesTextUptoRow : OpenClaim := { program := "ytnghcoghbbapgaagreatdoor", sum := "f33eeee0962083b954f784a33a58296a6abe1584ca293b7cef8d98f3894ad757", func := "vidimus/vidimuslaw26.TreesText", spec := "treesText", inPlace := ["internal/bytealg.IndexByteString", "internal/bytealg.IndexString", "internal/abi.NoEscape", "internal/bytealg.MakeNoZero"], unfollowed := true, recurses := true, named := ["unicode/utf8.first", "unicode/utf8.acceptRanges", "vidimus/qualifiers.sequence", "vidimus/qualifiers.oid", "vidimus/qualifiers.ia5", "vidimus/qualifiers.shown", "vidimus/qualifiers.integer", "internal/strconv.uint64pow10", "math/bits.deBruijn32tab", "math/bits.deBruijn64tab", "internal/bytealg.MaxLen"], plainKeys := false, apart := false, laid := [("math/bits.deBruijn32tab", laid_math_bits_deBruijn32tab), ("math/bits.deBruijn64tab", laid_math_bits_deBruijn64tab), ("internal/strconv.uint64pow10", laid_internal_strconv_uint64pow10), ("unicode/utf8.acceptRanges", laid_unicode_utf8_acceptRanges), ("vidimus/qualifiers.sequence", laid_vidimus_qualifiers_sequence), ("vidimus/qualifiers.oid", laid_vidimus_qualifiers_oid), ("vidimus/qualifiers.ia5", laid_vidimus_qualifiers_ia5), ("vidimus/qualifiers.integer", laid_vidimus_qualifiers_integer), ("vidimus/qualifiers.shown", laid_vidimus_qualifiers_shown), ("unicode/utf8.first", laid_unicode_utf8_first)], narrowed := true }
def TreesTextUptoSaid : Prop := treesTextUptoRow.holds Tryz.pinned (OpenSpec.upto treesTextSpec)

/-- 'vidimuslaw26.TreesKnown', WHERE WHAT IT READS IS OF BULK AT MOST 1048576: true; the input reads as it did. -/
def treesKnownUptoRow : OpenClaim := { program := "ytnghcoghbbapgaagreatdoor", sum := "f33eeee0962083b954f784a33a58296a6abe1584ca293b7cef8d98f3894ad757", func := "vidimus/vidimuslaw26.TreesKnown", spec := "treesKnown", inPlace := ["internal/bytealg.IndexByteString", "internal/bytealg.IndexString", "internal/abi.NoEscape", "internal/bytealg.MakeNoZero"], unfollowed := true, recurses := true, named := ["vidimus/qualifiers.sequence", "vidimus/qualifiers.oid", "vidimus/qualifiers.ia5", "vidimus/qualifiers.shown", "unicode/utf8.first", "unicode/utf8.acceptRanges", "vidimus/qualifiers.integer", "internal/strconv.uint64pow10", "math/bits.deBruijn32tab", "math/bits.deBruijn64tab", "internal/bytealg.MaxLen"], plainKeys := false, apart := false, laid := [("math/bits.deBruijn32tab", laid_math_bits_deBruijn32tab), ("math/bits.deBruijn64tab", laid_math_bits_deBruijn64tab), ("internal/strconv.uint64pow10", laid_internal_strconv_uint64pow10), ("unicode/utf8.acceptRanges", laid_unicode_utf8_acceptRanges), ("vidimus/qualifiers.sequence", laid_vidimus_qualifiers_sequence), ("vidimus/qualifiers.oid", laid_vidimus_qualifiers_oid), ("vidimus/qualifiers.ia5", laid_vidimus_qualifiers_ia5), ("vidimus/qualifiers.integer", laid_vidimus_qualifiers_integer), ("vidimus/qualifiers.shown", laid_vidimus_qualifiers_shown), ("unicode/utf8.first", laid_unicode_utf8_first)], narrowed := true }
def TreesKnownUptoSaid : Prop := treesKnownUptoRow.holds Tryz.pinned (OpenSpec.upto treesKnownSpec)

end Rows
end Go.Proofs.YtnghcoghbbapgaaGreatDoor
