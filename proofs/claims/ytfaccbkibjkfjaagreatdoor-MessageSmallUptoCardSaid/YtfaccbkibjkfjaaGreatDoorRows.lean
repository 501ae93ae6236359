/-
  NARROWER THAN 'FOR EVERY INPUT', by the rows' own cells (each row's printed sentence says how): MessageWrites: laid · MessageReads: laid · MessageOf: laid · MessageSmall: laid · MessageAgain: laid · MessageOther: laid · MessageWrong: laid · MessageBack: laid.
  DERIVED. THE GIVEN ROWS OF THIS SEAT. 8 by the template 'for every input the law returns true; each argument reads behind the call as it read before'; 0 by the template 'total and deterministic' (their statements: YtfaccbkibjkfjaaGreatDoorTotals.lean).
  GIVEN WITH THE SEED: the statements are not yours to turn. If you find one false, say at which input.
  Laid BY PROGRAM, IN A SANDBOX (cutbox-rows.mjs): the forced cells as the released guide's own fill.sh prints them over the translation 119b8ef2e819ad1b… (all of the seat's roots in one cut). By AI agents, Wed Nov 11 2026. No macro, syntax, notation, axiom, sorry.
-/
import Derived.Test.YtfaccbkibjkfjaaGreatDoorChecked
import GoSem.PinnedTables
import GoSem.Claim
import GoSem.ClaimJoined
import GoSem.ClaimMapViews
import Derived.JoinedTies
import Derived.KernelRfl
namespace Go.Proofs.YtfaccbkibjkfjaaGreatDoor
/- THE CELL 'sum', in the pinned program and in every row, IS THE sha256 OF THE DUMP (.gsa) THAT YtfaccbkibjkfjaaGreatDoorProg.lean LOADS. Nothing in Lean hashes anything: it is a label: what it is worth is what the hold of that sum in a sandbox is worth. -/
noncomputable def Tryz.pinned : Pinned := { name := "ytfaccbkibjkfjaagreatdoor", sum := "119b8ef2e819ad1b8a808243531602cd574642a83e169848980494d02f208a31", checked := Tryz.checked }
namespace Rows
def none {H : Type} : Left H := { results := [], args := [] }

/- WHAT THE LISTED PACKAGE-LEVEL VARIABLES READ AS WHEN THE CALL BEGINS. Each datum BY PROGRAM (the guide's laid-datum.mjs) off the statement by which the dump's own 'gosem.cut.vars' lays the variable. In a bare row this is a premise. The card (YtfaccbkibjkfjaaGreatDoorCards.lean) ties it to the program's text. -/
def laid_math_bits_deBruijn32tab {H : Type} : DataW H := .agg [.lit (.int .u8 0), .lit (.int .u8 1), .lit (.int .u8 28), .lit (.int .u8 2), .lit (.int .u8 29), .lit (.int .u8 14), .lit (.int .u8 24), .lit (.int .u8 3), .lit (.int .u8 30), .lit (.int .u8 22), .lit (.int .u8 20), .lit (.int .u8 15), .lit (.int .u8 25), .lit (.int .u8 17), .lit (.int .u8 4), .lit (.int .u8 8), .lit (.int .u8 31), .lit (.int .u8 27), .lit (.int .u8 13), .lit (.int .u8 23), .lit (.int .u8 21), .lit (.int .u8 19), .lit (.int .u8 16), .lit (.int .u8 7), .lit (.int .u8 26), .lit (.int .u8 12), .lit (.int .u8 18), .lit (.int .u8 6), .lit (.int .u8 11), .lit (.int .u8 5), .lit (.int .u8 10), .lit (.int .u8 9)]
def laid_math_bits_deBruijn64tab {H : Type} : DataW H := .agg [.lit (.int .u8 0), .lit (.int .u8 1), .lit (.int .u8 56), .lit (.int .u8 2), .lit (.int .u8 57), .lit (.int .u8 49), .lit (.int .u8 28), .lit (.int .u8 3), .lit (.int .u8 61), .lit (.int .u8 58), .lit (.int .u8 42), .lit (.int .u8 50), .lit (.int .u8 38), .lit (.int .u8 29), .lit (.int .u8 17), .lit (.int .u8 4), .lit (.int .u8 62), .lit (.int .u8 47), .lit (.int .u8 59), .lit (.int .u8 36), .lit (.int .u8 45), .lit (.int .u8 43), .lit (.int .u8 51), .lit (.int .u8 22), .lit (.int .u8 53), .lit (.int .u8 39), .lit (.int .u8 33), .lit (.int .u8 30), .lit (.int .u8 24), .lit (.int .u8 18), .lit (.int .u8 12), .lit (.int .u8 5), .lit (.int .u8 63), .lit (.int .u8 55), .lit (.int .u8 48), .lit (.int .u8 27), .lit (.int .u8 60), .lit (.int .u8 41), .lit (.int .u8 37), .lit (.int .u8 16), .lit (.int .u8 46), .lit (.int .u8 35), .lit (.int .u8 44), .lit (.int .u8 21), .lit (.int .u8 52), .lit (.int .u8 32), .lit (.int .u8 23), .lit (.int .u8 11), .lit (.int .u8 54), .lit (.int .u8 26), .lit (.int .u8 40), .lit (.int .u8 15), .lit (.int .u8 34), .lit (.int .u8 20), .lit (.int .u8 31), .lit (.int .u8 10), .lit (.int .u8 25), .lit (.int .u8 14), .lit (.int .u8 19), .lit (.int .u8 9), .lit (.int .u8 13), .lit (.int .u8 8), .lit (.int .u8 7), .lit (.int .u8 6)]
def laid_internal_strconv_uint64pow10 {H : Type} : DataW H := .agg [.lit (.int .u64 1), .lit (.int .u64 10), .lit (.int .u64 100), .lit (.int .u64 1000), .lit (.int .u64 10000), .lit (.int .u64 100000), .lit (.int .u64 1000000), .lit (.int .u64 10000000), .lit (.int .u64 100000000), .lit (.int .u64 1000000000), .lit (.int .u64 10000000000), .lit (.int .u64 100000000000), .lit (.int .u64 1000000000000), .lit (.int .u64 10000000000000), .lit (.int .u64 100000000000000), .lit (.int .u64 1000000000000000), .lit (.int .u64 10000000000000000), .lit (.int .u64 100000000000000000), .lit (.int .u64 1000000000000000000), .lit (.int .u64 10000000000000000000)]
def laid_unicode_utf8_acceptRanges {H : Type} : DataW H := .agg [.agg [.lit (.int .u8 128), .lit (.int .u8 191)], .agg [.lit (.int .u8 160), .lit (.int .u8 191)], .agg [.lit (.int .u8 128), .lit (.int .u8 159)], .agg [.lit (.int .u8 144), .lit (.int .u8 191)], .agg [.lit (.int .u8 128), .lit (.int .u8 143)], .agg [.lit (.int .u8 0), .lit (.int .u8 0)], .agg [.lit (.int .u8 0), .lit (.int .u8 0)], .agg [.lit (.int .u8 0), .lit (.int .u8 0)], .agg [.lit (.int .u8 0), .lit (.int .u8 0)], .agg [.lit (.int .u8 0), .lit (.int .u8 0)], .agg [.lit (.int .u8 0), .lit (.int .u8 0)], .agg [.lit (.int .u8 0), .lit (.int .u8 0)], .agg [.lit (.int .u8 0), .lit (.int .u8 0)], .agg [.lit (.int .u8 0), .lit (.int .u8 0)], .agg [.lit (.int .u8 0), .lit (.int .u8 0)], .agg [.lit (.int .u8 0), .lit (.int .u8 0)]]
def laid_strconv_ErrRange {H : Type} : DataW H := .iface "*errors.errorString" (.ptr (.agg [.lit (.string [118, 97, 108, 117, 101, 32, 111, 117, 116, 32, 111, 102, 32, 114, 97, 110, 103, 101])]))
def laid_strconv_ErrSyntax {H : Type} : DataW H := .iface "*errors.errorString" (.ptr (.agg [.lit (.string [105, 110, 118, 97, 108, 105, 100, 32, 115, 121, 110, 116, 97, 120])]))
def laid_twistlock_slot_quarter {H : Type} : DataW H := .agg [.lit (.int .i64 2), .lit (.int .i64 1), .lit (.int .i64 3)]
def laid_twistlock_iso_kinds {H : Type} : DataW H := .slice [.agg [.lit (.string [50, 50, 71, 49]), .agg [.lit (.int .u8 20), .lit (.bool false), .lit (.bool false)]], .agg [.lit (.string [50, 50, 82, 49]), .agg [.lit (.int .u8 20), .lit (.bool false), .lit (.bool true)]], .agg [.lit (.string [52, 50, 71, 49]), .agg [.lit (.int .u8 40), .lit (.bool false), .lit (.bool false)]], .agg [.lit (.string [52, 50, 82, 49]), .agg [.lit (.int .u8 40), .lit (.bool false), .lit (.bool true)]], .agg [.lit (.string [52, 53, 71, 49]), .agg [.lit (.int .u8 40), .lit (.bool true), .lit (.bool false)]], .agg [.lit (.string [52, 53, 82, 49]), .agg [.lit (.int .u8 40), .lit (.bool true), .lit (.bool true)]]] []
/-- One of Go's own tables, pinned by name: the form's constant. -/
def laid_unicode_utf8_first : DataW Unit := Go.Pinned.utf8First
def laid_twistlock_twistlocklaw24_ports {H : Type} : DataW H := .agg [.lit (.string [78, 76, 82, 84, 77]), .lit (.string [68, 69, 72, 65, 77]), .lit (.string [83, 69, 71, 79, 84]), .lit (.string [71, 66, 70, 88, 84]), .lit (.string [70, 82, 76, 69, 72]), .lit (.string [66, 69, 65, 78, 82])]

/-- 'twistlocklaw39.MessageWrites': WHATEVER THE INPUT: true; the input reads as it did. -/
def messageWritesSpec : ChangeSpec := { name := "messageWrites", fn := fun _ => fun
  | [d1, d2, d3] => { results := [.lit (.bool true)], args := [d1, d2, d3] }
  | _ => none }
def messageWritesRow : OpenClaim := { program := "ytfaccbkibjkfjaagreatdoor", sum := "119b8ef2e819ad1b8a808243531602cd574642a83e169848980494d02f208a31", func := "twistlock/twistlocklaw39.MessageWrites", spec := "messageWrites", inPlace := ["internal/abi.NoEscape", "internal/bytealg.IndexByteString", "internal/bytealg.CountString", "internal/bytealg.IndexString", "internal/bytealg.MakeNoZero"], unfollowed := true, recurses := true, named := ["internal/strconv.uint64pow10", "math/bits.deBruijn32tab", "math/bits.deBruijn64tab", "twistlock/slot.quarter", "twistlock/iso.kinds", "strconv.ErrSyntax", "strconv.ErrRange", "internal/bytealg.MaxLen", "unicode/utf8.first", "unicode/utf8.acceptRanges"], plainKeys := false, apart := false, laid := [("math/bits.deBruijn32tab", laid_math_bits_deBruijn32tab), ("math/bits.deBruijn64tab", laid_math_bits_deBruijn64tab), ("internal/strconv.uint64pow10", laid_internal_strconv_uint64pow10), ("unicode/utf8.acceptRanges", laid_unicode_utf8_acceptRanges), ("strconv.ErrRange", laid_strconv_ErrRange), ("strconv.ErrSyntax", laid_strconv_ErrSyntax), ("twistlock/slot.quarter", laid_twistlock_slot_quarter), ("twistlock/iso.kinds", laid_twistlock_iso_kinds), ("unicode/utf8.first", laid_unicode_utf8_first)] }
def MessageWritesSaid : Prop := messageWritesRow.holds Tryz.pinned (OpenSpec.ofChange messageWritesSpec)

/-- ITS FALSE NEIGHBOUR: 'it returns false'. Refute it at one input. -/
def messageWritesWrong : ChangeSpec := { name := "messageWrites", fn := fun _ => fun
  | [d1, d2, d3] => { results := [.lit (.bool false)], args := [d1, d2, d3] }
  | _ => none }
def MessageWritesWrongFalsely : Prop := messageWritesRow.holds Tryz.pinned (OpenSpec.ofChange messageWritesWrong)

/-- 'twistlocklaw39.MessageReads': WHATEVER THE INPUT: true; the input reads as it did. -/
def messageReadsSpec : ChangeSpec := { name := "messageReads", fn := fun _ => fun
  | [d1, d2] => { results := [.lit (.bool true)], args := [d1, d2] }
  | _ => none }
def messageReadsRow : OpenClaim := { program := "ytfaccbkibjkfjaagreatdoor", sum := "119b8ef2e819ad1b8a808243531602cd574642a83e169848980494d02f208a31", func := "twistlock/twistlocklaw39.MessageReads", spec := "messageReads", inPlace := ["internal/abi.NoEscape", "internal/bytealg.IndexByteString", "internal/bytealg.CountString", "internal/bytealg.IndexString", "internal/bytealg.MakeNoZero"], unfollowed := true, recurses := true, named := ["internal/strconv.uint64pow10", "math/bits.deBruijn32tab", "math/bits.deBruijn64tab", "twistlock/slot.quarter", "twistlock/iso.kinds", "strconv.ErrSyntax", "strconv.ErrRange", "internal/bytealg.MaxLen", "unicode/utf8.first", "unicode/utf8.acceptRanges"], plainKeys := false, apart := false, laid := [("math/bits.deBruijn32tab", laid_math_bits_deBruijn32tab), ("math/bits.deBruijn64tab", laid_math_bits_deBruijn64tab), ("internal/strconv.uint64pow10", laid_internal_strconv_uint64pow10), ("unicode/utf8.acceptRanges", laid_unicode_utf8_acceptRanges), ("strconv.ErrRange", laid_strconv_ErrRange), ("strconv.ErrSyntax", laid_strconv_ErrSyntax), ("twistlock/slot.quarter", laid_twistlock_slot_quarter), ("twistlock/iso.kinds", laid_twistlock_iso_kinds), ("unicode/utf8.first", laid_unicode_utf8_first)] }
def MessageReadsSaid : Prop := messageReadsRow.holds Tryz.pinned (OpenSpec.ofChange messageReadsSpec)

/-- ITS FALSE NEIGHBOUR: 'it returns false'. Refute it at one input. -/
def messageReadsWrong : ChangeSpec := { name := "messageReads", fn := fun _ => fun
  | [d1, d2] => { results := [.lit (.bool false)], args := [d1, d2] }
  | _ => none }
def MessageReadsWrongFalsely : Prop := messageReadsRow.holds Tryz.pinned (OpenSpec.ofChange messageReadsWrong)

/-- 'twistlocklaw39.MessageOf': WHATEVER THE INPUT: true; the input reads as it did. -/
def messageOfSpec : ChangeSpec := { name := "messageOf", fn := fun _ => fun
  | [d1, d2, d3, d4, d5] => { results := [.lit (.bool true)], args := [d1, d2, d3, d4, d5] }
  | _ => none }
def messageOfRow : OpenClaim := { program := "ytfaccbkibjkfjaagreatdoor", sum := "119b8ef2e819ad1b8a808243531602cd574642a83e169848980494d02f208a31", func := "twistlock/twistlocklaw39.MessageOf", spec := "messageOf", inPlace := ["internal/abi.NoEscape", "internal/bytealg.IndexByteString", "internal/bytealg.CountString", "internal/bytealg.IndexString", "internal/bytealg.MakeNoZero"], unfollowed := true, recurses := true, named := ["internal/strconv.uint64pow10", "math/bits.deBruijn32tab", "math/bits.deBruijn64tab", "twistlock/slot.quarter", "twistlock/iso.kinds", "strconv.ErrSyntax", "strconv.ErrRange", "internal/bytealg.MaxLen", "unicode/utf8.first", "unicode/utf8.acceptRanges"], plainKeys := false, apart := false, laid := [("math/bits.deBruijn32tab", laid_math_bits_deBruijn32tab), ("math/bits.deBruijn64tab", laid_math_bits_deBruijn64tab), ("internal/strconv.uint64pow10", laid_internal_strconv_uint64pow10), ("unicode/utf8.acceptRanges", laid_unicode_utf8_acceptRanges), ("strconv.ErrRange", laid_strconv_ErrRange), ("strconv.ErrSyntax", laid_strconv_ErrSyntax), ("twistlock/slot.quarter", laid_twistlock_slot_quarter), ("twistlock/iso.kinds", laid_twistlock_iso_kinds), ("unicode/utf8.first", laid_unicode_utf8_first)] }
def MessageOfSaid : Prop := messageOfRow.holds Tryz.pinned (OpenSpec.ofChange messageOfSpec)

/-- ITS FALSE NEIGHBOUR: 'it returns false'. Refute it at one input. -/
def messageOfWrong : ChangeSpec := { name := "messageOf", fn := fun _ => fun
  | [d1, d2, d3, d4, d5] => { results := [.lit (.bool false)], args := [d1, d2, d3, d4, d5] }
  | _ => none }
def MessageOfWrongFalsely : Prop := messageOfRow.holds Tryz.pinned (OpenSpec.ofChange messageOfWrong)

/-- 'twistlocklaw39.MessageSmall': WHATEVER THE INPUT: true; the input reads as it did. -/
def messageSmallSpec : ChangeSpec := { name := "messageSmall", fn := fun _ => fun
  | [] => { results := [.lit (.bool true)], args := [] }
  | _ => none }
def messageSmallRow : OpenClaim := { program := "ytfaccbkibjkfjaagreatdoor", sum := "119b8ef2e819ad1b8a808243531602cd574642a83e169848980494d02f208a31", func := "twistlock/twistlocklaw39.MessageSmall", spec := "messageSmall", inPlace := ["internal/bytealg.CountString", "internal/bytealg.IndexByteString", "internal/bytealg.IndexString", "internal/abi.NoEscape", "internal/bytealg.MakeNoZero"], unfollowed := true, recurses := true, named := ["unicode/utf8.first", "unicode/utf8.acceptRanges", "internal/bytealg.MaxLen", "internal/strconv.uint64pow10", "math/bits.deBruijn32tab", "math/bits.deBruijn64tab", "strconv.ErrSyntax", "strconv.ErrRange", "twistlock/slot.quarter", "twistlock/iso.kinds"], plainKeys := false, apart := false, laid := [("math/bits.deBruijn32tab", laid_math_bits_deBruijn32tab), ("math/bits.deBruijn64tab", laid_math_bits_deBruijn64tab), ("internal/strconv.uint64pow10", laid_internal_strconv_uint64pow10), ("unicode/utf8.acceptRanges", laid_unicode_utf8_acceptRanges), ("strconv.ErrRange", laid_strconv_ErrRange), ("strconv.ErrSyntax", laid_strconv_ErrSyntax), ("twistlock/slot.quarter", laid_twistlock_slot_quarter), ("twistlock/iso.kinds", laid_twistlock_iso_kinds), ("unicode/utf8.first", laid_unicode_utf8_first)] }
def MessageSmallSaid : Prop := messageSmallRow.holds Tryz.pinned (OpenSpec.ofChange messageSmallSpec)

/-- ITS FALSE NEIGHBOUR: 'it returns false'. Refute it at one input. -/
def messageSmallWrong : ChangeSpec := { name := "messageSmall", fn := fun _ => fun
  | [] => { results := [.lit (.bool false)], args := [] }
  | _ => none }
def MessageSmallWrongFalsely : Prop := messageSmallRow.holds Tryz.pinned (OpenSpec.ofChange messageSmallWrong)

/-- 'twistlocklaw39.MessageAgain': WHATEVER THE INPUT: true; the input reads as it did. -/
def messageAgainSpec : ChangeSpec := { name := "messageAgain", fn := fun _ => fun
  | [d1, d2, d3, d4, d5] => { results := [.lit (.bool true)], args := [d1, d2, d3, d4, d5] }
  | _ => none }
def messageAgainRow : OpenClaim := { program := "ytfaccbkibjkfjaagreatdoor", sum := "119b8ef2e819ad1b8a808243531602cd574642a83e169848980494d02f208a31", func := "twistlock/twistlocklaw39.MessageAgain", spec := "messageAgain", inPlace := ["internal/abi.NoEscape", "internal/bytealg.IndexByteString", "internal/bytealg.CountString", "internal/bytealg.IndexString", "internal/bytealg.MakeNoZero"], unfollowed := true, recurses := true, named := ["internal/strconv.uint64pow10", "math/bits.deBruijn32tab", "math/bits.deBruijn64tab", "twistlock/slot.quarter", "twistlock/iso.kinds", "strconv.ErrSyntax", "strconv.ErrRange", "internal/bytealg.MaxLen", "unicode/utf8.first", "unicode/utf8.acceptRanges", "twistlock/twistlocklaw24.ports"], plainKeys := false, apart := false, laid := [("math/bits.deBruijn32tab", laid_math_bits_deBruijn32tab), ("math/bits.deBruijn64tab", laid_math_bits_deBruijn64tab), ("internal/strconv.uint64pow10", laid_internal_strconv_uint64pow10), ("unicode/utf8.acceptRanges", laid_unicode_utf8_acceptRanges), ("strconv.ErrRange", laid_strconv_ErrRange), ("strconv.ErrSyntax", laid_strconv_ErrSyntax), ("twistlock/slot.quarter", laid_twistlock_slot_quarter), ("twistlock/iso.kinds", laid_twistlock_iso_kinds), ("twistlock/twistlocklaw24.ports", laid_twistlock_twistlocklaw24_ports), ("unicode/utf8.first", laid_unicode_utf8_first)] }
def MessageAgainSaid : Prop := messageAgainRow.holds Tryz.pinned (OpenSpec.ofChange messageAgainSpec)

/-- ITS FALSE NEIGHBOUR: 'it returns false'. Refute it at one input. -/
def messageAgainWrong : ChangeSpec := { name := "messageAgain", fn := fun _ => fun
  | [d1, d2, d3, d4, d5] => { results := [.lit (.bool false)], args := [d1, d2, d3, d4, d5] }
  | _ => none }
def MessageAgainWrongFalsely : Prop := messageAgainRow.holds Tryz.pinned (OpenSpec.ofChange messageAgainWrong)

/-- 'twistlocklaw39.MessageOther': WHATEVER THE INPUT: true; the input reads as it did. -/
def messageOtherSpec : ChangeSpec := { name := "messageOther", fn := fun _ => fun
  | [d1, d2, d3, d4, d5, d6] => { results := [.lit (.bool true)], args := [d1, d2, d3, d4, d5, d6] }
  | _ => none }
def messageOtherRow : OpenClaim := { program := "ytfaccbkibjkfjaagreatdoor", sum := "119b8ef2e819ad1b8a808243531602cd574642a83e169848980494d02f208a31", func := "twistlock/twistlocklaw39.MessageOther", spec := "messageOther", inPlace := ["internal/abi.NoEscape", "internal/bytealg.IndexByteString", "internal/bytealg.CountString", "internal/bytealg.IndexString", "internal/bytealg.MakeNoZero"], unfollowed := true, recurses := true, named := ["internal/strconv.uint64pow10", "math/bits.deBruijn32tab", "math/bits.deBruijn64tab", "twistlock/slot.quarter", "twistlock/iso.kinds", "strconv.ErrSyntax", "strconv.ErrRange", "internal/bytealg.MaxLen", "unicode/utf8.first", "unicode/utf8.acceptRanges", "twistlock/twistlocklaw24.ports"], plainKeys := false, apart := false, laid := [("math/bits.deBruijn32tab", laid_math_bits_deBruijn32tab), ("math/bits.deBruijn64tab", laid_math_bits_deBruijn64tab), ("internal/strconv.uint64pow10", laid_internal_strconv_uint64pow10), ("unicode/utf8.acceptRanges", laid_unicode_utf8_acceptRanges), ("strconv.ErrRange", laid_strconv_ErrRange), ("strconv.ErrSyntax", laid_strconv_ErrSyntax), ("twistlock/slot.quarter", laid_twistlock_slot_quarter), ("twistlock/iso.kinds", laid_twistlock_iso_kinds), ("twistlock/twistlocklaw24.ports", laid_twistlock_twistlocklaw24_ports), ("unicode/utf8.first", laid_unicode_utf8_first)] }
def MessageOtherSaid : Prop := messageOtherRow.holds Tryz.pinned (OpenSpec.ofChange messageOtherSpec)

/-- ITS FALSE NEIGHBOUR: 'it returns false'. Refute it at one input. -/
def messageOtherWrong : ChangeSpec := { name := "messageOther", fn := fun _ => fun
  | [d1, d2, d3, d4, d5, d6] => { results := [.lit (.bool false)], args := [d1, d2, d3, d4, d5, d6] }
  | _ => none }
def MessageOtherWrongFalsely : Prop := messageOtherRow.holds Tryz.pinned (OpenSpec.ofChange messageOtherWrong)

/-- 'twistlocklaw39.MessageWrong': WHATEVER THE INPUT: true; the input reads as it did. -/
def messageWrongSpec : ChangeSpec := { name := "messageWrong", fn := fun _ => fun
  | [d1, d2, d3, d4, d5] => { results := [.lit (.bool true)], args := [d1, d2, d3, d4, d5] }
  | _ => none }
def messageWrongRow : OpenClaim := { program := "ytfaccbkibjkfjaagreatdoor", sum := "119b8ef2e819ad1b8a808243531602cd574642a83e169848980494d02f208a31", func := "twistlock/twistlocklaw39.MessageWrong", spec := "messageWrong", inPlace := ["internal/abi.NoEscape", "internal/bytealg.IndexByteString", "internal/bytealg.CountString", "internal/bytealg.IndexString", "internal/bytealg.MakeNoZero"], unfollowed := true, recurses := true, named := ["internal/strconv.uint64pow10", "math/bits.deBruijn32tab", "math/bits.deBruijn64tab", "twistlock/slot.quarter", "twistlock/iso.kinds", "strconv.ErrSyntax", "strconv.ErrRange", "internal/bytealg.MaxLen", "unicode/utf8.first", "unicode/utf8.acceptRanges", "twistlock/twistlocklaw24.ports"], plainKeys := false, apart := false, laid := [("math/bits.deBruijn32tab", laid_math_bits_deBruijn32tab), ("math/bits.deBruijn64tab", laid_math_bits_deBruijn64tab), ("internal/strconv.uint64pow10", laid_internal_strconv_uint64pow10), ("unicode/utf8.acceptRanges", laid_unicode_utf8_acceptRanges), ("strconv.ErrRange", laid_strconv_ErrRange), ("strconv.ErrSyntax", laid_strconv_ErrSyntax), ("twistlock/slot.quarter", laid_twistlock_slot_quarter), ("twistlock/iso.kinds", laid_twistlock_iso_kinds), ("twistlock/twistlocklaw24.ports", laid_twistlock_twistlocklaw24_ports), ("unicode/utf8.first", laid_unicode_utf8_first)] }
def MessageWrongSaid : Prop := messageWrongRow.holds Tryz.pinned (OpenSpec.ofChange messageWrongSpec)

/-- ITS FALSE NEIGHBOUR: 'it returns false'. Refute it at one input. -/
def messageWrongWrong : ChangeSpec := { name := "messageWrong", fn := fun _ => fun
  | [d1, d2, d3, d4, d5] => { results := [.lit (.bool false)], args := [d1, d2, d3, d4, d5] }
  | _ => none }
def MessageWrongWrongFalsely : Prop := messageWrongRow.holds Tryz.pinned (OpenSpec.ofChange messageWrongWrong)

/-- 'twistlocklaw39.MessageBack': WHATEVER THE INPUT: true; the input reads as it did. -/
def messageBackSpec : ChangeSpec := { name := "messageBack", fn := fun _ => fun
  | [d1, d2, d3, d4, d5, d6] => { results := [.lit (.bool true)], args := [d1, d2, d3, d4, d5, d6] }
  | _ => none }
def messageBackRow : OpenClaim := { program := "ytfaccbkibjkfjaagreatdoor", sum := "119b8ef2e819ad1b8a808243531602cd574642a83e169848980494d02f208a31", func := "twistlock/twistlocklaw39.MessageBack", spec := "messageBack", inPlace := ["internal/abi.NoEscape", "internal/bytealg.IndexByteString", "internal/bytealg.CountString", "internal/bytealg.IndexString", "internal/bytealg.MakeNoZero"], unfollowed := true, recurses := true, named := ["internal/strconv.uint64pow10", "math/bits.deBruijn32tab", "math/bits.deBruijn64tab", "twistlock/slot.quarter", "twistlock/iso.kinds", "strconv.ErrSyntax", "strconv.ErrRange", "internal/bytealg.MaxLen", "unicode/utf8.first", "unicode/utf8.acceptRanges", "twistlock/twistlocklaw24.ports"], plainKeys := false, apart := false, laid := [("math/bits.deBruijn32tab", laid_math_bits_deBruijn32tab), ("math/bits.deBruijn64tab", laid_math_bits_deBruijn64tab), ("internal/strconv.uint64pow10", laid_internal_strconv_uint64pow10), ("unicode/utf8.acceptRanges", laid_unicode_utf8_acceptRanges), ("strconv.ErrRange", laid_strconv_ErrRange), ("strconv.ErrSyntax", laid_strconv_ErrSyntax), ("twistlock/slot.quarter", laid_twistlock_slot_quarter), ("twistlock/iso.kinds", laid_twistlock_iso_kinds), ("twistlock/twistlocklaw24.ports", laid_twistlock_twistlocklaw24_ports), ("unicode/utf8.first", laid_unicode_utf8_first)] }
def MessageBackSaid : Prop := messageBackRow.holds Tryz.pinned (OpenSpec.ofChange messageBackSpec)

/-- ITS FALSE NEIGHBOUR: 'it returns false'. Refute it at one input. -/
def messageBackWrong : ChangeSpec := { name := "messageBack", fn := fun _ => fun
  | [d1, d2, d3, d4, d5, d6] => { results := [.lit (.bool false)], args := [d1, d2, d3, d4, d5, d6] }
  | _ => none }
def MessageBackWrongFalsely : Prop := messageBackRow.holds Tryz.pinned (OpenSpec.ofChange messageBackWrong)

/- THE SECOND FORM. 'bulk': how many values and letters a reading holds, each counted each time it is reached (what is shared counts as often as it is met; a slice's spare places count too). A statement '..UptoSaid' is the law's where the arguments, and the package variables that the reading takes, are together of bulk at most 1048576: NARROWER than '..Said'. Prove '..Said' where nothing that the law and all that it calls make is longer than what came in: it says more and counts as full. Else prove '..UptoSaid'. A law counts once. -/
mutual
def uptoBulk {H : Type} : DataW H → Nat
  | .lit (.string bytes) => bytes.length + 1
  | .lit _ => 1
  | .nil => 1
  | .ptr d => uptoBulk d + 1
  | .slice elems spare => uptoBulkAll elems + uptoBulkAll spare + 1
  | .agg parts => uptoBulkAll parts + 1
  | .iface _ d => uptoBulk d + 1
  | .map entries => uptoBulkEntries entries + 1
  | .held _ => 1
def uptoBulkAll {H : Type} : List (DataW H) → Nat
  | [] => 0
  | d :: r => uptoBulk d + uptoBulkAll r
def uptoBulkEntries {H : Type} : List (Lit × DataW H) → Nat
  | [] => 0
  | x :: r => uptoBulkEntry x + uptoBulkEntries r
def uptoBulkEntry {H : Type} : Lit × DataW H → Nat
  | (.string bytes, d) => bytes.length + uptoBulk d + 1
  | (_, d) => uptoBulk d + 1
 end
def uptoSmall : (H : Type) → List (DataW H) → Bool := fun _ ds => decide (uptoBulkAll ds ≤ 1048576)
def OpenSpec.upto (s : _root_.Go.ChangeSpec) : _root_.Go.OpenSpec := { _root_.Go.OpenSpec.ofChange s with cond := some uptoSmall }

/-- 'twistlocklaw39.MessageWrites', WHERE WHAT IT READS IS OF BULK AT MOST 1048576: true; the input reads as it did. -/
def messageWritesUptoRow : OpenClaim := { program := "ytfaccbkibjkfjaagreatdoor", sum := "119b8ef2e819ad1b8a808243531602cd574642a83e169848980494d02f208a31", func := "twistlock/twistlocklaw39.MessageWrites", spec := "messageWrites", inPlace := ["internal/abi.NoEscape", "internal/bytealg.IndexByteString", "internal/bytealg.CountString", "internal/bytealg.IndexString", "internal/bytealg.MakeNoZero"], unfollowed := true, recurses := true, named := ["internal/strconv.uint64pow10", "math/bits.deBruijn32tab", "math/bits.deBruijn64tab", "twistlock/slot.quarter", "twistlock/iso.kinds", "strconv.ErrSyntax", "strconv.ErrRange", "internal/bytealg.MaxLen", "unicode/utf8.first", "unicode/utf8.acceptRanges"], plainKeys := false, apart := false, laid := [("math/bits.deBruijn32tab", laid_math_bits_deBruijn32tab), ("math/bits.deBruijn64tab", laid_math_bits_deBruijn64tab), ("internal/strconv.uint64pow10", laid_internal_strconv_uint64pow10), ("unicode/utf8.acceptRanges", laid_unicode_utf8_acceptRanges), ("strconv.ErrRange", laid_strconv_ErrRange), ("strconv.ErrSyntax", laid_strconv_ErrSyntax), ("twistlock/slot.quarter", laid_twistlock_slot_quarter), ("twistlock/iso.kinds", laid_twistlock_iso_kinds), ("unicode/utf8.first", laid_unicode_utf8_first)], narrowed := true }
def MessageWritesUptoSaid : Prop := messageWritesUptoRow.holds Tryz.pinned (OpenSpec.upto messageWritesSpec)

/-- 'twistlocklaw39.MessageReads', WHERE WHAT IT READS IS OF BULK AT MOST 1048576: true; the input reads as it did. -/
def messageReadsUptoRow : OpenClaim := { program := "ytfaccbkibjkfjaagreatdoor", sum := "119b8ef2e819ad1b8a808243531602cd574642a83e169848980494d02f208a31", func := "twistlock/twistlocklaw39.MessageReads", spec := "messageReads", inPlace := ["internal/abi.NoEscape", "internal/bytealg.IndexByteString", "internal/bytealg.CountString", "internal/bytealg.IndexString", "internal/bytealg.MakeNoZero"], unfollowed := true, recurses := true, named := ["internal/strconv.uint64pow10", "math/bits.deBruijn32tab", "math/bits.deBruijn64tab", "twistlock/slot.quarter", "twistlock/iso.kinds", "strconv.ErrSyntax", "strconv.ErrRange", "internal/bytealg.MaxLen", "unicode/utf8.first", "unicode/utf8.acceptRanges"], plainKeys := false, apart := false, laid := [("math/bits.deBruijn32tab", laid_math_bits_deBruijn32tab), ("math/bits.deBruijn64tab", laid_math_bits_deBruijn64tab), ("internal/strconv.uint64pow10", laid_internal_strconv_uint64pow10), ("unicode/utf8.acceptRanges", laid_unicode_utf8_acceptRanges), ("strconv.ErrRange", laid_strconv_ErrRange), ("strconv.ErrSyntax", laid_strconv_ErrSyntax), ("twistlock/slot.quarter", laid_twistlock_slot_quarter), ("twistlock/iso.kinds", laid_twistlock_iso_kinds), ("unicode/utf8.first", laid_unicode_utf8_first)], narrowed := true }
def MessageReadsUptoSaid : Prop := messageReadsUptoRow.holds Tryz.pinned (OpenSpec.upto messageReadsSpec)

/-- 'twistlocklaw39.MessageOf', WHERE WHAT IT READS IS OF BULK AT MOST 1048576: true; the input reads as it did. -/
def messageOfUptoRow : OpenClaim := { program := "ytfaccbkibjkfjaagreatdoor", sum := "119b8ef2e819ad1b8a808243531602cd574642a83e169848980494d02f208a31", func := "twistlock/twistlocklaw39.MessageOf", spec := "messageOf", inPlace := ["internal/abi.NoEscape", "internal/bytealg.IndexByteString", "internal/bytealg.CountString", "internal/bytealg.IndexString", "internal/bytealg.MakeNoZero"], unfollowed := true, recurses := true, named := ["internal/strconv.uint64pow10", "math/bits.deBruijn32tab", "math/bits.deBruijn64tab", "twistlock/slot.quarter", "twistlock/iso.kinds", "strconv.ErrSyntax", "strconv.ErrRange", "internal/bytealg.MaxLen", "unicode/utf8.first", "unicode/utf8.acceptRanges"], plainKeys := false, apart := false, laid := [("math/bits.deBruijn32tab", laid_math_bits_deBruijn32tab), ("math/bits.deBruijn64tab", laid_math_bits_deBruijn64tab), ("internal/strconv.uint64pow10", laid_internal_strconv_uint64pow10), ("unicode/utf8.acceptRanges", laid_unicode_utf8_acceptRanges), ("strconv.ErrRange", laid_strconv_ErrRange), ("strconv.ErrSyntax", laid_strconv_ErrSyntax), ("twistlock/slot.quarter", laid_twistlock_slot_quarter), ("twistlock/iso.kinds", laid_twistlock_iso_kinds), ("unicode/utf8.first", laid_unicode_utf8_first)], narrowed := true }
def MessageOfUptoSaid : Prop := messageOfUptoRow.holds Tryz.pinned (OpenSpec.upto messageOfSpec)

/-- 'twistlocklaw39.MessageSmall', WHERE WHAT IT READS IS OF BULK AT MOST 1048576: true; the input reads as it did. -/
def messageSmallUptoRow : OpenClaim := { program := "ytfaccbkibjkfjaagreatdoor", sum := "119b8ef2e819ad1b8a808243531602cd574642a83e169848980494d02f208a31", func := "twistlock/twistlocklaw39.MessageSmall", spec := "messageSmall", inPlace := ["internal/bytealg.CountString", "internal/bytealg.IndexByteString", "internal/bytealg.IndexString", "internal/abi.NoEscape", "internal/bytealg.MakeNoZero"], unfollowed := true, recurses := true, named := ["unicode/utf8.first", "unicode/utf8.acceptRanges", "internal/bytealg.MaxLen", "internal/strconv.uint64pow10", "math/bits.deBruijn32tab", "math/bits.deBruijn64tab", "strconv.ErrSyntax", "strconv.ErrRange", "twistlock/slot.quarter", "twistlock/iso.kinds"], plainKeys := false, apart := false, laid := [("math/bits.deBruijn32tab", laid_math_bits_deBruijn32tab), ("math/bits.deBruijn64tab", laid_math_bits_deBruijn64tab), ("internal/strconv.uint64pow10", laid_internal_strconv_uint64pow10), ("unicode/utf8.acceptRanges", laid_unicode_utf8_acceptRanges), ("strconv.ErrRange", laid_strconv_ErrRange), ("strconv.ErrSyntax", laid_strconv_ErrSyntax), ("twistlock/slot.quarter", laid_twistlock_slot_quarter), ("twistlock/iso.kinds", laid_twistlock_iso_kinds), ("unicode/utf8.first", laid_unicode_utf8_first)], narrowed := true }
def MessageSmallUptoSaid : Prop := messageSmallUptoRow.holds Tryz.pinned (OpenSpec.upto messageSmallSpec)

/-- 'twistlocklaw39.MessageAgain', WHERE WHAT IT READS IS OF BULK AT MOST 1048576: true; the input reads as it did. -/
def messageAgainUptoRow : OpenClaim := { program := "ytfaccbkibjkfjaagreatdoor", sum := "119b8ef2e819ad1b8a808243531602cd574642a83e169848980494d02f208a31", func := "twistlock/twistlocklaw39.MessageAgain", spec := "messageAgain", inPlace := ["internal/abi.NoEscape", "internal/bytealg.IndexByteString", "internal/bytealg.CountString", "internal/bytealg.IndexString", "internal/bytealg.MakeNoZero"], unfollowed := true, recurses := true, named := ["internal/strconv.uint64pow10", "math/bits.deBruijn32tab", "math/bits.deBruijn64tab", "twistlock/slot.quarter", "twistlock/iso.kinds", "strconv.ErrSyntax", "strconv.ErrRange", "internal/bytealg.MaxLen", "unicode/utf8.first", "unicode/utf8.acceptRanges", "twistlock/twistlocklaw24.ports"], plainKeys := false, apart := false, laid := [("math/bits.deBruijn32tab", laid_math_bits_deBruijn32tab), ("math/bits.deBruijn64tab", laid_math_bits_deBruijn64tab), ("internal/strconv.uint64pow10", laid_internal_strconv_uint64pow10), ("unicode/utf8.acceptRanges", laid_unicode_utf8_acceptRanges), ("strconv.ErrRange", laid_strconv_ErrRange), ("strconv.ErrSyntax", laid_strconv_ErrSyntax), ("twistlock/slot.quarter", laid_twistlock_slot_quarter), ("twistlock/iso.kinds", laid_twistlock_iso_kinds), ("twistlock/twistlocklaw24.ports", laid_twistlock_twistlocklaw24_ports), ("unicode/utf8.first", laid_unicode_utf8_first)], narrowed := true }
def MessageAgainUptoSaid : Prop := messageAgainUptoRow.holds Tryz.pinned (OpenSpec.upto messageAgainSpec)

/-- 'twistlocklaw39.MessageOther', WHERE WHAT IT READS IS OF BULK AT MOST 1048576: true; the input reads as it did. -/
def messageOtherUptoRow : OpenClaim := { program := "ytfaccbkibjkfjaagreatdoor", sum := "119b8ef2e819ad1b8a808243531602cd574642a83e169848980494d02f208a31", func := "twistlock/twistlocklaw39.MessageOther", spec := "messageOther", inPlace := ["internal/abi.NoEscape", "internal/bytealg.IndexByteString", "internal/bytealg.CountString", "internal/bytealg.IndexString", "internal/bytealg.MakeNoZero"], unfollowed := true, recurses := true, named := ["internal/strconv.uint64pow10", "math/bits.deBruijn32tab", "math/bits.deBruijn64tab", "twistlock/slot.quarter", "twistlock/iso.kinds", "strconv.ErrSyntax", "strconv.ErrRange", "internal/bytealg.MaxLen", "unicode/utf8.first", "unicode/utf8.acceptRanges", "twistlock/twistlocklaw24.ports"], plainKeys := false, apart := false, laid := [("math/bits.deBruijn32tab", laid_math_bits_deBruijn32tab), ("math/bits.deBruijn64tab", laid_math_bits_deBruijn64tab), ("internal/strconv.uint64pow10", laid_internal_strconv_uint64pow10), ("unicode/utf8.acceptRanges", laid_unicode_utf8_acceptRanges), ("strconv.ErrRange", laid_strconv_ErrRange), ("strconv.ErrSyntax", laid_strconv_ErrSyntax), ("twistlock/slot.quarter", laid_twistlock_slot_quarter), ("twistlock/iso.kinds", laid_twistlock_iso_kinds), ("twistlock/twistlocklaw24.ports", laid_twistlock_twistlocklaw24_ports), ("unicode/utf8.first", laid_unicode_utf8_first)], narrowed := true }
def MessageOtherUptoSaid : Prop := messageOtherUptoRow.holds Tryz.pinned (OpenSpec.upto messageOtherSpec)

/-- 'twistlocklaw39.MessageWrong', WHERE WHAT IT READS IS OF BULK AT MOST 1048576: true; the input reads as it did. -/
def messageWrongUptoRow : OpenClaim := { program := "ytfaccbkibjkfjaagreatdoor", sum := "119b8ef2e819ad1b8a808243531602cd574642a83e169848980494d02f208a31", func := "twistlock/twistlocklaw39.MessageWrong", spec := "messageWrong", inPlace := ["internal/abi.NoEscape", "internal/bytealg.IndexByteString", "internal/bytealg.CountString", "internal/bytealg.IndexString", "internal/bytealg.MakeNoZero"], unfollowed := true, recurses := true, named := ["internal/strconv.uint64pow10", "math/bits.deBruijn32tab", "math/bits.deBruijn64tab", "twistlock/slot.quarter", "twistlock/iso.kinds", "strconv.ErrSyntax", "strconv.ErrRange", "internal/bytealg.MaxLen", "unicode/utf8.first", "unicode/utf8.acceptRanges", "twistlock/twistlocklaw24.ports"], plainKeys := false, apart := false, laid := [("math/bits.deBruijn32tab", laid_math_bits_deBruijn32tab), ("math/bits.deBruijn64tab", laid_math_bits_deBruijn64tab), ("internal/strconv.uint64pow10", laid_internal_strconv_uint64pow10), ("unicode/utf8.acceptRanges", laid_unicode_utf8_acceptRanges), ("strconv.ErrRange", laid_strconv_ErrRange), ("strconv.ErrSyntax", laid_strconv_ErrSyntax), ("twistlock/slot.quarter", laid_twistlock_slot_quarter), ("twistlock/iso.kinds", laid_twistlock_iso_kinds), ("twistlock/twistlocklaw24.ports", laid_twistlock_twistlocklaw24_ports), ("unicode/utf8.first", laid_unicode_utf8_first)], narrowed := true }
def MessageWrongUptoSaid : Prop := messageWrongUptoRow.holds Tryz.pinned (OpenSpec.upto messageWrongSpec)

/-- 'twistlocklaw39.MessageBack', WHERE WHAT IT READS IS OF BULK AT MOST 1048576: true; the input reads as it did. -/
def messageBackUptoRow : OpenClaim := { program := "ytfaccbkibjkfjaagreatdoor", sum := "119b8ef2e819ad1b8a808243531602cd574642a83e169848980494d02f208a31", func := "twistlock/twistlocklaw39.MessageBack", spec := "messageBack", inPlace := ["internal/abi.NoEscape", "internal/bytealg.IndexByteString", "internal/bytealg.CountString", "internal/bytealg.IndexString", "internal/bytealg.MakeNoZero"], unfollowed := true, recurses := true, named := ["internal/strconv.uint64pow10", "math/bits.deBruijn32tab", "math/bits.deBruijn64tab", "twistlock/slot.quarter", "twistlock/iso.kinds", "strconv.ErrSyntax", "strconv.ErrRange", "internal/bytealg.MaxLen", "unicode/utf8.first", "unicode/utf8.acceptRanges", "twistlock/twistlocklaw24.ports"], plainKeys := false, apart := false, laid := [("math/bits.deBruijn32tab", laid_math_bits_deBruijn32tab), ("math/bits.deBruijn64tab", laid_math_bits_deBruijn64tab), ("internal/strconv.uint64pow10", laid_internal_strconv_uint64pow10), ("unicode/utf8.acceptRanges", laid_unicode_utf8_acceptRanges), ("strconv.ErrRange", laid_strconv_ErrRange), ("strconv.ErrSyntax", laid_strconv_ErrSyntax), ("twistlock/slot.quarter", laid_twistlock_slot_quarter), ("twistlock/iso.kinds", laid_twistlock_iso_kinds), ("twistlock/twistlocklaw24.ports", laid_twistlock_twistlocklaw24_ports), ("unicode/utf8.first", laid_unicode_utf8_first)], narrowed := true }
def MessageBackUptoSaid : Prop := messageBackUptoRow.holds Tryz.pinned (OpenSpec.upto messageBackSpec)

end Rows
end Go.Proofs.YtfaccbkibjkfjaaGreatDoor
