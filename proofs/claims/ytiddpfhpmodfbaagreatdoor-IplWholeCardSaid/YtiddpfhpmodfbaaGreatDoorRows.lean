/-
  NARROWER THAN 'FOR EVERY INPUT', by the rows' own cells (each row's printed sentence says how): IplReads: laid · IplChecks: laid · IplLoses: laid · IplRuns: laid · IplWhole: laid · IplHeaders: laid · IplAsks: laid · IplObjects: laid · IplReclaims: laid · IplOnce: laid · IplOwns: laid · IplFinds: laid.
  DERIVED. THE GIVEN ROWS OF THIS SEAT. 12 by the template 'for every input the law returns true; each argument reads behind the call as it read before'; 0 by the template 'total and deterministic' (their statements: YtiddpfhpmodfbaaGreatDoorTotals.lean).
  GIVEN WITH THE SEED: the statements are not yours to turn. If you find one false, say at which input.
  Laid BY PROGRAM, IN A SANDBOX (cutbox-rows.mjs): the forced cells as the released guide's own fill.sh prints them over the translation 799463005ab1108e… (all of the seat's roots in one cut). By AI agents, Wed Nov 11 2026. No macro, syntax, notation, axiom, sorry.
-/
import Derived.Test.YtiddpfhpmodfbaaGreatDoorChecked
import GoSem.PinnedTables
import GoSem.Claim
import GoSem.ClaimJoined
import GoSem.ClaimMapViews
import Derived.JoinedTies
import Derived.KernelRfl
namespace Go.Proofs.YtiddpfhpmodfbaaGreatDoor
/- THE CELL 'sum', in the pinned program and in every row, IS THE sha256 OF THE DUMP (.gsa) THAT YtiddpfhpmodfbaaGreatDoorProg.lean LOADS. Nothing in Lean hashes anything: it is a label: what it is worth is what the hold of that sum in a sandbox is worth. -/
noncomputable def Tryz.pinned : Pinned := { name := "ytiddpfhpmodfbaagreatdoor", sum := "799463005ab1108e40bf4f9bdbc7aee8c2d125b8328de6724ab3ea556a477a05", checked := Tryz.checked }
namespace Rows
def none {H : Type} : Left H := { results := [], args := [] }

/- WHAT THE LISTED PACKAGE-LEVEL VARIABLES READ AS WHEN THE CALL BEGINS. Each datum BY PROGRAM (the guide's laid-datum.mjs) off the statement by which the dump's own 'gosem.cut.vars' lays the variable. In a bare row this is a premise. The card (YtiddpfhpmodfbaaGreatDoorCards.lean) ties it to the program's text. -/
def laid_unicode_utf8_acceptRanges {H : Type} : DataW H := .agg [.agg [.lit (.int .u8 128), .lit (.int .u8 191)], .agg [.lit (.int .u8 160), .lit (.int .u8 191)], .agg [.lit (.int .u8 128), .lit (.int .u8 159)], .agg [.lit (.int .u8 144), .lit (.int .u8 191)], .agg [.lit (.int .u8 128), .lit (.int .u8 143)], .agg [.lit (.int .u8 0), .lit (.int .u8 0)], .agg [.lit (.int .u8 0), .lit (.int .u8 0)], .agg [.lit (.int .u8 0), .lit (.int .u8 0)], .agg [.lit (.int .u8 0), .lit (.int .u8 0)], .agg [.lit (.int .u8 0), .lit (.int .u8 0)], .agg [.lit (.int .u8 0), .lit (.int .u8 0)], .agg [.lit (.int .u8 0), .lit (.int .u8 0)], .agg [.lit (.int .u8 0), .lit (.int .u8 0)], .agg [.lit (.int .u8 0), .lit (.int .u8 0)], .agg [.lit (.int .u8 0), .lit (.int .u8 0)], .agg [.lit (.int .u8 0), .lit (.int .u8 0)]]
/-- One of Go's own tables, pinned by name: the form's constant. -/
def laid_unicode_utf8_first : DataW Unit := Go.Pinned.utf8First
def laid_math_bits_deBruijn32tab {H : Type} : DataW H := .agg [.lit (.int .u8 0), .lit (.int .u8 1), .lit (.int .u8 28), .lit (.int .u8 2), .lit (.int .u8 29), .lit (.int .u8 14), .lit (.int .u8 24), .lit (.int .u8 3), .lit (.int .u8 30), .lit (.int .u8 22), .lit (.int .u8 20), .lit (.int .u8 15), .lit (.int .u8 25), .lit (.int .u8 17), .lit (.int .u8 4), .lit (.int .u8 8), .lit (.int .u8 31), .lit (.int .u8 27), .lit (.int .u8 13), .lit (.int .u8 23), .lit (.int .u8 21), .lit (.int .u8 19), .lit (.int .u8 16), .lit (.int .u8 7), .lit (.int .u8 26), .lit (.int .u8 12), .lit (.int .u8 18), .lit (.int .u8 6), .lit (.int .u8 11), .lit (.int .u8 5), .lit (.int .u8 10), .lit (.int .u8 9)]
def laid_math_bits_deBruijn64tab {H : Type} : DataW H := .agg [.lit (.int .u8 0), .lit (.int .u8 1), .lit (.int .u8 56), .lit (.int .u8 2), .lit (.int .u8 57), .lit (.int .u8 49), .lit (.int .u8 28), .lit (.int .u8 3), .lit (.int .u8 61), .lit (.int .u8 58), .lit (.int .u8 42), .lit (.int .u8 50), .lit (.int .u8 38), .lit (.int .u8 29), .lit (.int .u8 17), .lit (.int .u8 4), .lit (.int .u8 62), .lit (.int .u8 47), .lit (.int .u8 59), .lit (.int .u8 36), .lit (.int .u8 45), .lit (.int .u8 43), .lit (.int .u8 51), .lit (.int .u8 22), .lit (.int .u8 53), .lit (.int .u8 39), .lit (.int .u8 33), .lit (.int .u8 30), .lit (.int .u8 24), .lit (.int .u8 18), .lit (.int .u8 12), .lit (.int .u8 5), .lit (.int .u8 63), .lit (.int .u8 55), .lit (.int .u8 48), .lit (.int .u8 27), .lit (.int .u8 60), .lit (.int .u8 41), .lit (.int .u8 37), .lit (.int .u8 16), .lit (.int .u8 46), .lit (.int .u8 35), .lit (.int .u8 44), .lit (.int .u8 21), .lit (.int .u8 52), .lit (.int .u8 32), .lit (.int .u8 23), .lit (.int .u8 11), .lit (.int .u8 54), .lit (.int .u8 26), .lit (.int .u8 40), .lit (.int .u8 15), .lit (.int .u8 34), .lit (.int .u8 20), .lit (.int .u8 31), .lit (.int .u8 10), .lit (.int .u8 25), .lit (.int .u8 14), .lit (.int .u8 19), .lit (.int .u8 9), .lit (.int .u8 13), .lit (.int .u8 8), .lit (.int .u8 7), .lit (.int .u8 6)]
def laid_internal_strconv_uint64pow10 {H : Type} : DataW H := .agg [.lit (.int .u64 1), .lit (.int .u64 10), .lit (.int .u64 100), .lit (.int .u64 1000), .lit (.int .u64 10000), .lit (.int .u64 100000), .lit (.int .u64 1000000), .lit (.int .u64 10000000), .lit (.int .u64 100000000), .lit (.int .u64 1000000000), .lit (.int .u64 10000000000), .lit (.int .u64 100000000000), .lit (.int .u64 1000000000000), .lit (.int .u64 10000000000000), .lit (.int .u64 100000000000000), .lit (.int .u64 1000000000000000), .lit (.int .u64 10000000000000000), .lit (.int .u64 100000000000000000), .lit (.int .u64 1000000000000000000), .lit (.int .u64 10000000000000000000)]

/-- 'midrangelaw11.IplReads': WHATEVER THE INPUT: true; the input reads as it did. -/
def iplReadsSpec : ChangeSpec := { name := "iplReads", fn := fun _ => fun
  | [d] => { results := [.lit (.bool true)], args := [d] }
  | _ => none }
def iplReadsRow : OpenClaim := { program := "ytiddpfhpmodfbaagreatdoor", sum := "799463005ab1108e40bf4f9bdbc7aee8c2d125b8328de6724ab3ea556a477a05", func := "midrange/midrangelaw11.IplReads", spec := "iplReads", inPlace := ["internal/abi.NoEscape", "internal/bytealg.MakeNoZero", "internal/bytealg.IndexByteString", "internal/bytealg.IndexString"], unfollowed := true, recurses := true, named := ["unicode/utf8.first", "unicode/utf8.acceptRanges", "internal/bytealg.MaxLen"], apart := false, laid := [("unicode/utf8.acceptRanges", laid_unicode_utf8_acceptRanges), ("unicode/utf8.first", laid_unicode_utf8_first)] }
def IplReadsSaid : Prop := iplReadsRow.holds Tryz.pinned (OpenSpec.ofChange iplReadsSpec)

/-- ITS FALSE NEIGHBOUR: 'it returns false'. Refute it at one input. -/
def iplReadsWrong : ChangeSpec := { name := "iplReads", fn := fun _ => fun
  | [d] => { results := [.lit (.bool false)], args := [d] }
  | _ => none }
def IplReadsWrongFalsely : Prop := iplReadsRow.holds Tryz.pinned (OpenSpec.ofChange iplReadsWrong)

/-- 'midrangelaw11.IplChecks': WHATEVER THE INPUT: true; the input reads as it did. -/
def iplChecksSpec : ChangeSpec := { name := "iplChecks", fn := fun _ => fun
  | [d] => { results := [.lit (.bool true)], args := [d] }
  | _ => none }
def iplChecksRow : OpenClaim := { program := "ytiddpfhpmodfbaagreatdoor", sum := "799463005ab1108e40bf4f9bdbc7aee8c2d125b8328de6724ab3ea556a477a05", func := "midrange/midrangelaw11.IplChecks", spec := "iplChecks", inPlace := ["internal/abi.NoEscape", "internal/bytealg.MakeNoZero", "internal/bytealg.IndexByteString", "internal/bytealg.IndexString"], unfollowed := true, recurses := true, named := ["unicode/utf8.first", "unicode/utf8.acceptRanges", "internal/bytealg.MaxLen"], apart := false, laid := [("unicode/utf8.acceptRanges", laid_unicode_utf8_acceptRanges), ("unicode/utf8.first", laid_unicode_utf8_first)] }
def IplChecksSaid : Prop := iplChecksRow.holds Tryz.pinned (OpenSpec.ofChange iplChecksSpec)

/-- ITS FALSE NEIGHBOUR: 'it returns false'. Refute it at one input. -/
def iplChecksWrong : ChangeSpec := { name := "iplChecks", fn := fun _ => fun
  | [d] => { results := [.lit (.bool false)], args := [d] }
  | _ => none }
def IplChecksWrongFalsely : Prop := iplChecksRow.holds Tryz.pinned (OpenSpec.ofChange iplChecksWrong)

/-- 'midrangelaw11.IplLoses': WHATEVER THE INPUT: true; the input reads as it did. -/
def iplLosesSpec : ChangeSpec := { name := "iplLoses", fn := fun _ => fun
  | [d1, d2] => { results := [.lit (.bool true)], args := [d1, d2] }
  | _ => none }
def iplLosesRow : OpenClaim := { program := "ytiddpfhpmodfbaagreatdoor", sum := "799463005ab1108e40bf4f9bdbc7aee8c2d125b8328de6724ab3ea556a477a05", func := "midrange/midrangelaw11.IplLoses", spec := "iplLoses", inPlace := ["internal/abi.NoEscape", "internal/bytealg.MakeNoZero", "internal/bytealg.IndexByteString", "internal/bytealg.IndexString"], unfollowed := true, recurses := true, named := ["unicode/utf8.first", "unicode/utf8.acceptRanges", "internal/bytealg.MaxLen"], apart := false, laid := [("unicode/utf8.acceptRanges", laid_unicode_utf8_acceptRanges), ("unicode/utf8.first", laid_unicode_utf8_first)] }
def IplLosesSaid : Prop := iplLosesRow.holds Tryz.pinned (OpenSpec.ofChange iplLosesSpec)

/-- ITS FALSE NEIGHBOUR: 'it returns false'. Refute it at one input. -/
def iplLosesWrong : ChangeSpec := { name := "iplLoses", fn := fun _ => fun
  | [d1, d2] => { results := [.lit (.bool false)], args := [d1, d2] }
  | _ => none }
def IplLosesWrongFalsely : Prop := iplLosesRow.holds Tryz.pinned (OpenSpec.ofChange iplLosesWrong)

/-- 'midrangelaw11.IplRuns': WHATEVER THE INPUT: true; the input reads as it did. -/
def iplRunsSpec : ChangeSpec := { name := "iplRuns", fn := fun _ => fun
  | [d] => { results := [.lit (.bool true)], args := [d] }
  | _ => none }
def iplRunsRow : OpenClaim := { program := "ytiddpfhpmodfbaagreatdoor", sum := "799463005ab1108e40bf4f9bdbc7aee8c2d125b8328de6724ab3ea556a477a05", func := "midrange/midrangelaw11.IplRuns", spec := "iplRuns", inPlace := ["internal/abi.NoEscape", "internal/bytealg.MakeNoZero", "internal/bytealg.IndexByteString", "internal/bytealg.IndexString"], unfollowed := true, recurses := true, named := ["unicode/utf8.first", "unicode/utf8.acceptRanges", "internal/bytealg.MaxLen"], apart := false, laid := [("unicode/utf8.acceptRanges", laid_unicode_utf8_acceptRanges), ("unicode/utf8.first", laid_unicode_utf8_first)] }
def IplRunsSaid : Prop := iplRunsRow.holds Tryz.pinned (OpenSpec.ofChange iplRunsSpec)

/-- ITS FALSE NEIGHBOUR: 'it returns false'. Refute it at one input. -/
def iplRunsWrong : ChangeSpec := { name := "iplRuns", fn := fun _ => fun
  | [d] => { results := [.lit (.bool false)], args := [d] }
  | _ => none }
def IplRunsWrongFalsely : Prop := iplRunsRow.holds Tryz.pinned (OpenSpec.ofChange iplRunsWrong)

/-- 'midrangelaw11.IplWhole': WHATEVER THE INPUT: true; the input reads as it did. -/
def iplWholeSpec : ChangeSpec := { name := "iplWhole", fn := fun _ => fun
  | [d1, d2] => { results := [.lit (.bool true)], args := [d1, d2] }
  | _ => none }
def iplWholeRow : OpenClaim := { program := "ytiddpfhpmodfbaagreatdoor", sum := "799463005ab1108e40bf4f9bdbc7aee8c2d125b8328de6724ab3ea556a477a05", func := "midrange/midrangelaw11.IplWhole", spec := "iplWhole", inPlace := ["internal/abi.NoEscape", "internal/bytealg.MakeNoZero", "internal/bytealg.IndexByteString", "internal/bytealg.IndexString"], unfollowed := true, recurses := true, named := ["unicode/utf8.first", "unicode/utf8.acceptRanges", "internal/bytealg.MaxLen"], apart := false, laid := [("unicode/utf8.acceptRanges", laid_unicode_utf8_acceptRanges), ("unicode/utf8.first", laid_unicode_utf8_first)] }
def IplWholeSaid : Prop := iplWholeRow.holds Tryz.pinned (OpenSpec.ofChange iplWholeSpec)

/-- ITS FALSE NEIGHBOUR: 'it returns false'. Refute it at one input. -/
def iplWholeWrong : ChangeSpec := { name := "iplWhole", fn := fun _ => fun
  | [d1, d2] => { results := [.lit (.bool false)], args := [d1, d2] }
  | _ => none }
def IplWholeWrongFalsely : Prop := iplWholeRow.holds Tryz.pinned (OpenSpec.ofChange iplWholeWrong)

/-- 'midrangelaw11.IplHeaders': WHATEVER THE INPUT: true; the input reads as it did. -/
def iplHeadersSpec : ChangeSpec := { name := "iplHeaders", fn := fun _ => fun
  | [d1, d2] => { results := [.lit (.bool true)], args := [d1, d2] }
  | _ => none }
def iplHeadersRow : OpenClaim := { program := "ytiddpfhpmodfbaagreatdoor", sum := "799463005ab1108e40bf4f9bdbc7aee8c2d125b8328de6724ab3ea556a477a05", func := "midrange/midrangelaw11.IplHeaders", spec := "iplHeaders", inPlace := ["internal/abi.NoEscape", "internal/bytealg.MakeNoZero", "internal/bytealg.IndexByteString", "internal/bytealg.IndexString"], unfollowed := true, recurses := true, named := ["unicode/utf8.first", "unicode/utf8.acceptRanges", "internal/bytealg.MaxLen"], apart := false, laid := [("unicode/utf8.acceptRanges", laid_unicode_utf8_acceptRanges), ("unicode/utf8.first", laid_unicode_utf8_first)] }
def IplHeadersSaid : Prop := iplHeadersRow.holds Tryz.pinned (OpenSpec.ofChange iplHeadersSpec)

/-- ITS FALSE NEIGHBOUR: 'it returns false'. Refute it at one input. -/
def iplHeadersWrong : ChangeSpec := { name := "iplHeaders", fn := fun _ => fun
  | [d1, d2] => { results := [.lit (.bool false)], args := [d1, d2] }
  | _ => none }
def IplHeadersWrongFalsely : Prop := iplHeadersRow.holds Tryz.pinned (OpenSpec.ofChange iplHeadersWrong)

/-- 'midrangelaw11.IplAsks': WHATEVER THE INPUT: true; the input reads as it did. -/
def iplAsksSpec : ChangeSpec := { name := "iplAsks", fn := fun _ => fun
  | [d1, d2, d3] => { results := [.lit (.bool true)], args := [d1, d2, d3] }
  | _ => none }
def iplAsksRow : OpenClaim := { program := "ytiddpfhpmodfbaagreatdoor", sum := "799463005ab1108e40bf4f9bdbc7aee8c2d125b8328de6724ab3ea556a477a05", func := "midrange/midrangelaw11.IplAsks", spec := "iplAsks", inPlace := ["internal/abi.NoEscape", "internal/bytealg.MakeNoZero", "internal/bytealg.IndexByteString", "internal/bytealg.IndexString"], unfollowed := true, recurses := true, named := ["unicode/utf8.first", "unicode/utf8.acceptRanges", "internal/bytealg.MaxLen"], apart := false, laid := [("unicode/utf8.acceptRanges", laid_unicode_utf8_acceptRanges), ("unicode/utf8.first", laid_unicode_utf8_first)] }
def IplAsksSaid : Prop := iplAsksRow.holds Tryz.pinned (OpenSpec.ofChange iplAsksSpec)

/-- ITS FALSE NEIGHBOUR: 'it returns false'. Refute it at one input. -/
def iplAsksWrong : ChangeSpec := { name := "iplAsks", fn := fun _ => fun
  | [d1, d2, d3] => { results := [.lit (.bool false)], args := [d1, d2, d3] }
  | _ => none }
def IplAsksWrongFalsely : Prop := iplAsksRow.holds Tryz.pinned (OpenSpec.ofChange iplAsksWrong)

/-- 'midrangelaw11.IplObjects': WHATEVER THE INPUT: true; the input reads as it did. -/
def iplObjectsSpec : ChangeSpec := { name := "iplObjects", fn := fun _ => fun
  | [d1, d2, d3] => { results := [.lit (.bool true)], args := [d1, d2, d3] }
  | _ => none }
def iplObjectsRow : OpenClaim := { program := "ytiddpfhpmodfbaagreatdoor", sum := "799463005ab1108e40bf4f9bdbc7aee8c2d125b8328de6724ab3ea556a477a05", func := "midrange/midrangelaw11.IplObjects", spec := "iplObjects", inPlace := ["internal/abi.NoEscape", "internal/bytealg.MakeNoZero", "internal/bytealg.IndexByteString", "internal/bytealg.IndexString"], unfollowed := true, recurses := true, named := ["unicode/utf8.first", "unicode/utf8.acceptRanges", "internal/bytealg.MaxLen"], apart := false, laid := [("unicode/utf8.acceptRanges", laid_unicode_utf8_acceptRanges), ("unicode/utf8.first", laid_unicode_utf8_first)] }
def IplObjectsSaid : Prop := iplObjectsRow.holds Tryz.pinned (OpenSpec.ofChange iplObjectsSpec)

/-- ITS FALSE NEIGHBOUR: 'it returns false'. Refute it at one input. -/
def iplObjectsWrong : ChangeSpec := { name := "iplObjects", fn := fun _ => fun
  | [d1, d2, d3] => { results := [.lit (.bool false)], args := [d1, d2, d3] }
  | _ => none }
def IplObjectsWrongFalsely : Prop := iplObjectsRow.holds Tryz.pinned (OpenSpec.ofChange iplObjectsWrong)

/-- 'midrangelaw11.IplReclaims': WHATEVER THE INPUT: true; the input reads as it did. -/
def iplReclaimsSpec : ChangeSpec := { name := "iplReclaims", fn := fun _ => fun
  | [d] => { results := [.lit (.bool true)], args := [d] }
  | _ => none }
def iplReclaimsRow : OpenClaim := { program := "ytiddpfhpmodfbaagreatdoor", sum := "799463005ab1108e40bf4f9bdbc7aee8c2d125b8328de6724ab3ea556a477a05", func := "midrange/midrangelaw11.IplReclaims", spec := "iplReclaims", inPlace := ["internal/abi.NoEscape", "internal/bytealg.MakeNoZero", "internal/bytealg.IndexByteString", "internal/bytealg.IndexString"], unfollowed := true, recurses := true, named := ["unicode/utf8.first", "unicode/utf8.acceptRanges", "internal/bytealg.MaxLen", "internal/strconv.uint64pow10", "math/bits.deBruijn32tab", "math/bits.deBruijn64tab"], apart := false, laid := [("math/bits.deBruijn32tab", laid_math_bits_deBruijn32tab), ("math/bits.deBruijn64tab", laid_math_bits_deBruijn64tab), ("internal/strconv.uint64pow10", laid_internal_strconv_uint64pow10), ("unicode/utf8.acceptRanges", laid_unicode_utf8_acceptRanges), ("unicode/utf8.first", laid_unicode_utf8_first)] }
def IplReclaimsSaid : Prop := iplReclaimsRow.holds Tryz.pinned (OpenSpec.ofChange iplReclaimsSpec)

/-- ITS FALSE NEIGHBOUR: 'it returns false'. Refute it at one input. -/
def iplReclaimsWrong : ChangeSpec := { name := "iplReclaims", fn := fun _ => fun
  | [d] => { results := [.lit (.bool false)], args := [d] }
  | _ => none }
def IplReclaimsWrongFalsely : Prop := iplReclaimsRow.holds Tryz.pinned (OpenSpec.ofChange iplReclaimsWrong)

/-- 'midrangelaw11.IplOnce': WHATEVER THE INPUT: true; the input reads as it did. -/
def iplOnceSpec : ChangeSpec := { name := "iplOnce", fn := fun _ => fun
  | [d] => { results := [.lit (.bool true)], args := [d] }
  | _ => none }
def iplOnceRow : OpenClaim := { program := "ytiddpfhpmodfbaagreatdoor", sum := "799463005ab1108e40bf4f9bdbc7aee8c2d125b8328de6724ab3ea556a477a05", func := "midrange/midrangelaw11.IplOnce", spec := "iplOnce", inPlace := ["internal/abi.NoEscape", "internal/bytealg.MakeNoZero", "internal/bytealg.IndexByteString", "internal/bytealg.IndexString"], unfollowed := true, recurses := true, named := ["unicode/utf8.first", "unicode/utf8.acceptRanges", "internal/bytealg.MaxLen", "internal/strconv.uint64pow10", "math/bits.deBruijn32tab", "math/bits.deBruijn64tab"], apart := false, laid := [("math/bits.deBruijn32tab", laid_math_bits_deBruijn32tab), ("math/bits.deBruijn64tab", laid_math_bits_deBruijn64tab), ("internal/strconv.uint64pow10", laid_internal_strconv_uint64pow10), ("unicode/utf8.acceptRanges", laid_unicode_utf8_acceptRanges), ("unicode/utf8.first", laid_unicode_utf8_first)] }
def IplOnceSaid : Prop := iplOnceRow.holds Tryz.pinned (OpenSpec.ofChange iplOnceSpec)

/-- ITS FALSE NEIGHBOUR: 'it returns false'. Refute it at one input. -/
def iplOnceWrong : ChangeSpec := { name := "iplOnce", fn := fun _ => fun
  | [d] => { results := [.lit (.bool false)], args := [d] }
  | _ => none }
def IplOnceWrongFalsely : Prop := iplOnceRow.holds Tryz.pinned (OpenSpec.ofChange iplOnceWrong)

/-- 'midrangelaw11.IplOwns': WHATEVER THE INPUT: true; the input reads as it did. -/
def iplOwnsSpec : ChangeSpec := { name := "iplOwns", fn := fun _ => fun
  | [d] => { results := [.lit (.bool true)], args := [d] }
  | _ => none }
def iplOwnsRow : OpenClaim := { program := "ytiddpfhpmodfbaagreatdoor", sum := "799463005ab1108e40bf4f9bdbc7aee8c2d125b8328de6724ab3ea556a477a05", func := "midrange/midrangelaw11.IplOwns", spec := "iplOwns", inPlace := ["internal/abi.NoEscape", "internal/bytealg.MakeNoZero", "internal/bytealg.IndexByteString", "internal/bytealg.IndexString"], unfollowed := true, recurses := true, named := ["unicode/utf8.first", "unicode/utf8.acceptRanges", "internal/bytealg.MaxLen", "internal/strconv.uint64pow10", "math/bits.deBruijn32tab", "math/bits.deBruijn64tab"], apart := false, laid := [("math/bits.deBruijn32tab", laid_math_bits_deBruijn32tab), ("math/bits.deBruijn64tab", laid_math_bits_deBruijn64tab), ("internal/strconv.uint64pow10", laid_internal_strconv_uint64pow10), ("unicode/utf8.acceptRanges", laid_unicode_utf8_acceptRanges), ("unicode/utf8.first", laid_unicode_utf8_first)] }
def IplOwnsSaid : Prop := iplOwnsRow.holds Tryz.pinned (OpenSpec.ofChange iplOwnsSpec)

/-- ITS FALSE NEIGHBOUR: 'it returns false'. Refute it at one input. -/
def iplOwnsWrong : ChangeSpec := { name := "iplOwns", fn := fun _ => fun
  | [d] => { results := [.lit (.bool false)], args := [d] }
  | _ => none }
def IplOwnsWrongFalsely : Prop := iplOwnsRow.holds Tryz.pinned (OpenSpec.ofChange iplOwnsWrong)

/-- 'midrangelaw11.IplFinds': WHATEVER THE INPUT: true; the input reads as it did. -/
def iplFindsSpec : ChangeSpec := { name := "iplFinds", fn := fun _ => fun
  | [d1, d2] => { results := [.lit (.bool true)], args := [d1, d2] }
  | _ => none }
def iplFindsRow : OpenClaim := { program := "ytiddpfhpmodfbaagreatdoor", sum := "799463005ab1108e40bf4f9bdbc7aee8c2d125b8328de6724ab3ea556a477a05", func := "midrange/midrangelaw11.IplFinds", spec := "iplFinds", inPlace := ["internal/abi.NoEscape", "internal/bytealg.MakeNoZero", "internal/bytealg.IndexByteString", "internal/bytealg.IndexString"], unfollowed := true, recurses := true, named := ["unicode/utf8.first", "unicode/utf8.acceptRanges", "internal/bytealg.MaxLen", "internal/strconv.uint64pow10", "math/bits.deBruijn32tab", "math/bits.deBruijn64tab"], apart := false, laid := [("math/bits.deBruijn32tab", laid_math_bits_deBruijn32tab), ("math/bits.deBruijn64tab", laid_math_bits_deBruijn64tab), ("internal/strconv.uint64pow10", laid_internal_strconv_uint64pow10), ("unicode/utf8.acceptRanges", laid_unicode_utf8_acceptRanges), ("unicode/utf8.first", laid_unicode_utf8_first)] }
def IplFindsSaid : Prop := iplFindsRow.holds Tryz.pinned (OpenSpec.ofChange iplFindsSpec)

/-- ITS FALSE NEIGHBOUR: 'it returns false'. Refute it at one input. -/
def iplFindsWrong : ChangeSpec := { name := "iplFinds", fn := fun _ => fun
  | [d1, d2] => { results := [.lit (.bool false)], args := [d1, d2] }
  | _ => none }
def IplFindsWrongFalsely : Prop := iplFindsRow.holds Tryz.pinned (OpenSpec.ofChange iplFindsWrong)

/- THE SECOND FORM. 'bulk': how many values and letters a reading holds, each counted each time it is reached (what is shared counts as often as it is met; a slice's spare places count too). A statement '..UptoSaid' is the law's where the arguments, and the package variables that the reading takes, are together of bulk at most 1048576: NARROWER than '..Said'. Prove '..Said' where nothing that the law and all that it calls make is longer than what came in: it says more and counts as full. Else prove '..UptoSaid'. A law counts once. -/
mutual
def uptoBulk {H : Type} : DataW H → Nat
  | .lit (.string bytes) => bytes.length + 1
  | .lit _ => 1
  | .nil => 1
  | .ptr d => uptoBulk d + 1
  | .slice elems spare => uptoBulkAll elems + uptoBulkAll spare + 1
  | .agg parts => uptoBulkAll parts + 1
  | .iface _ d => uptoBulk d + 1
  | .map entries => uptoBulkEntries entries + 1
  | .held _ => 1
def uptoBulkAll {H : Type} : List (DataW H) → Nat
  | [] => 0
  | d :: r => uptoBulk d + uptoBulkAll r
def uptoBulkEntries {H : Type} : List (Lit × DataW H) → Nat
  | [] => 0
  | x :: r => uptoBulkEntry x + uptoBulkEntries r
def uptoBulkEntry {H : Type} : Lit × DataW H → Nat
  | (.string bytes, d) => bytes.length + uptoBulk d + 1
  | (_, d) => uptoBulk d + 1
 end
def uptoSmall : (H : Type) → List (DataW H) → Bool := fun _ ds => decide (uptoBulkAll ds ≤ 1048576)
def OpenSpec.upto (s : _root_.Go.ChangeSpec) : _root_.Go.OpenSpec := { _root_.Go.OpenSpec.ofChange s with cond := some uptoSmall }

/-- 'midrangelaw11.IplReads', WHERE WHAT IT READS IS OF BULK AT MOST 1048576: true; the input reads as it did. -/
def iplReadsUptoRow : OpenClaim := { program := "ytiddpfhpmodfbaagreatdoor", sum := "799463005ab1108e40bf4f9bdbc7aee8c2d125b8328de6724ab3ea556a477a05", func := "midrange/midrangelaw11.IplReads", spec := "iplReads", inPlace := ["internal/abi.NoEscape", "internal/bytealg.MakeNoZero", "internal/bytealg.IndexByteString", "internal/bytealg.IndexString"], unfollowed := true, recurses := true, named := ["unicode/utf8.first", "unicode/utf8.acceptRanges", "internal/bytealg.MaxLen"], apart := false, laid := [("unicode/utf8.acceptRanges", laid_unicode_utf8_acceptRanges), ("unicode/utf8.first", laid_unicode_utf8_first)], narrowed := true }
def IplReadsUptoSaid : Prop := iplReadsUptoRow.holds Tryz.pinned (OpenSpec.upto iplReadsSpec)

/-- 'midrangelaw11.IplChecks', WHERE WHAT IT READS IS OF BULK AT MOST 1048576: true; the input reads as it did. -/
def iplChecksUptoRow : OpenClaim := { program := "ytiddpfhpmodfbaagreatdoor", sum := "799463005ab1108e40bf4f9bdbc7aee8c2d125b8328de6724ab3ea556a477a05", func := "midrange/midrangelaw11.IplChecks", spec := "iplChecks", inPlace := ["internal/abi.NoEscape", "internal/bytealg.MakeNoZero", "internal/bytealg.IndexByteString", "internal/bytealg.IndexString"], unfollowed := true, recurses := true, named := ["unicode/utf8.first", "unicode/utf8.acceptRanges", "internal/bytealg.MaxLen"], apart := false, laid := [("unicode/utf8.acceptRanges", laid_unicode_utf8_acceptRanges), ("unicode/utf8.first", laid_unicode_utf8_first)], narrowed := true }
def IplChecksUptoSaid : Prop := iplChecksUptoRow.holds Tryz.pinned (OpenSpec.upto iplChecksSpec)

/-- 'midrangelaw11.IplLoses', WHERE WHAT IT READS IS OF BULK AT MOST 1048576: true; the input reads as it did. -/
def iplLosesUptoRow : OpenClaim := { program := "ytiddpfhpmodfbaagreatdoor", sum := "799463005ab1108e40bf4f9bdbc7aee8c2d125b8328de6724ab3ea556a477a05", func := "midrange/midrangelaw11.IplLoses", spec := "iplLoses", inPlace := ["internal/abi.NoEscape", "internal/bytealg.MakeNoZero", "internal/bytealg.IndexByteString", "internal/bytealg.IndexString"], unfollowed := true, recurses := true, named := ["unicode/utf8.first", "unicode/utf8.acceptRanges", "internal/bytealg.MaxLen"], apart := false, laid := [("unicode/utf8.acceptRanges", laid_unicode_utf8_acceptRanges), ("unicode/utf8.first", laid_unicode_utf8_first)], narrowed := true }
def IplLosesUptoSaid : Prop := iplLosesUptoRow.holds Tryz.pinned (OpenSpec.upto iplLosesSpec)

/-- 'midrangelaw11.IplRuns', WHERE WHAT IT READS IS OF BULK AT MOST 1048576: true; the input reads as it did. -/
def iplRunsUptoRow : OpenClaim := { program := "ytiddpfhpmodfbaagreatdoor", sum := "799463005ab1108e40bf4f9bdbc7aee8c2d125b8328de6724ab3ea556a477a05", func := "midrange/midrangelaw11.IplRuns", spec := "iplRuns", inPlace := ["internal/abi.NoEscape", "internal/bytealg.MakeNoZero", "internal/bytealg.IndexByteString", "internal/bytealg.IndexString"], unfollowed := true, recurses := true, named := ["unicode/utf8.first", "unicode/utf8.acceptRanges", "internal/bytealg.MaxLen"], apart := false, laid := [("unicode/utf8.acceptRanges", laid_unicode_utf8_acceptRanges), ("unicode/utf8.first", laid_unicode_utf8_first)], narrowed := true }
def IplRunsUptoSaid : Prop := iplRunsUptoRow.holds Tryz.pinned (OpenSpec.upto iplRunsSpec)

/-- 'midrangelaw11.IplWhole', WHERE WHAT IT READS IS OF BULK AT MOST 1048576: true; the input reads as it did. -/
def iplWholeUptoRow : OpenClaim := { program := "ytiddpfhpmodfbaagreatdoor", sum := "799463005ab1108e40bf4f9bdbc7aee8c2d125b8328de6724ab3ea556a477a05", func := "midrange/midrangelaw11.IplWhole", spec := "iplWhole", inPlace := ["internal/abi.NoEscape", "internal/bytealg.MakeNoZero", "internal/bytealg.IndexByteString", "internal/bytealg.IndexString"], unfollowed := true, recurses := true, named := ["unicode/utf8.first", "unicode/utf8.acceptRanges", "internal/bytealg.MaxLen"], apart := false, laid := [("unicode/utf8.acceptRanges", laid_unicode_utf8_acceptRanges), ("unicode/utf8.first", laid_unicode_utf8_first)], narrowed := true }
def IplWholeUptoSaid : Prop := iplWholeUptoRow.holds Tryz.pinned (OpenSpec.upto iplWholeSpec)

/-- 'midrangelaw11.IplHeaders', WHERE WHAT IT READS IS OF BULK AT MOST 1048576: true; the input reads as it did. -/
def iplHeadersUptoRow : OpenClaim := { program := "ytiddpfhpmodfbaagreatdoor", sum := "799463005ab1108e40bf4f9bdbc7aee8c2d125b8328de6724ab3ea556a477a05", func := "midrange/midrangelaw11.IplHeaders", spec := "iplHeaders", inPlace := ["internal/abi.NoEscape", "internal/bytealg.MakeNoZero", "internal/bytealg.IndexByteString", "internal/bytealg.IndexString"], unfollowed := true, recurses := true, named := ["unicode/utf8.first", "unicode/utf8.acceptRanges", "internal/bytealg.MaxLen"], apart := false, laid := [("unicode/utf8.acceptRanges", laid_unicode_utf8_acceptRanges), ("unicode/utf8.first", laid_unicode_utf8_first)], narrowed := true }
def IplHeadersUptoSaid : Prop := iplHeadersUptoRow.holds Tryz.pinned (OpenSpec.upto iplHeadersSpec)

/-- 'midrangelaw11.IplAsks', WHERE WHAT IT READS IS OF BULK AT MOST 1048576: true; the input reads as it did. -/
def iplAsksUptoRow : OpenClaim := { program := "ytiddpfhpmodfbaagreatdoor", sum := "799463005ab1108e40bf4f9bdbc7aee8c2d125b8328de6724ab3ea556a477a05", func := "midrange/midrangelaw11.IplAsks", spec := "iplAsks", inPlace := ["internal/abi.NoEscape", "internal/bytealg.MakeNoZero", "internal/bytealg.IndexByteString", "internal/bytealg.IndexString"], unfollowed := true, recurses := true, named := ["unicode/utf8.first", "unicode/utf8.acceptRanges", "internal/bytealg.MaxLen"], apart := false, laid := [("unicode/utf8.acceptRanges", laid_unicode_utf8_acceptRanges), ("unicode/utf8.first", laid_unicode_utf8_first)], narrowed := true }
def IplAsksUptoSaid : Prop := iplAsksUptoRow.holds Tryz.pinned (OpenSpec.upto iplAsksSpec)

/-- 'midrangelaw11.IplObjects', WHERE WHAT IT READS IS OF BULK AT MOST 1048576: true; the input reads as it did. -/
def iplObjectsUptoRow : OpenClaim := { program := "ytiddpfhpmodfbaagreatdoor", sum := "799463005ab1108e40bf4f9bdbc7aee8c2d125b8328de6724ab3ea556a477a05", func := "midrange/midrangelaw11.IplObjects", spec := "iplObjects", inPlace := ["internal/abi.NoEscape", "internal/bytealg.MakeNoZero", "internal/bytealg.IndexByteString", "internal/bytealg.IndexString"], unfollowed := true, recurses := true, named := ["unicode/utf8.first", "unicode/utf8.acceptRanges", "internal/bytealg.MaxLen"], apart := false, laid := [("unicode/utf8.acceptRanges", laid_unicode_utf8_acceptRanges), ("unicode/utf8.first", laid_unicode_utf8_first)], narrowed := true }
def IplObjectsUptoSaid : Prop := iplObjectsUptoRow.holds Tryz.pinned (OpenSpec.upto iplObjectsSpec)

/-- 'midrangelaw11.IplReclaims', WHERE WHAT IT READS IS OF BULK AT MOST 1048576: true; the input reads as it did. -/
def iplReclaimsUptoRow : OpenClaim := { program := "ytiddpfhpmodfbaagreatdoor", sum := "799463005ab1108e40bf4f9bdbc7aee8c2d125b8328de6724ab3ea556a477a05", func := "midrange/midrangelaw11.IplReclaims", spec := "iplReclaims", inPlace := ["internal/abi.NoEscape", "internal/bytealg.MakeNoZero", "internal/bytealg.IndexByteString", "internal/bytealg.IndexString"], unfollowed := true, recurses := true, named := ["unicode/utf8.first", "unicode/utf8.acceptRanges", "internal/bytealg.MaxLen", "internal/strconv.uint64pow10", "math/bits.deBruijn32tab", "math/bits.deBruijn64tab"], apart := false, laid := [("math/bits.deBruijn32tab", laid_math_bits_deBruijn32tab), ("math/bits.deBruijn64tab", laid_math_bits_deBruijn64tab), ("internal/strconv.uint64pow10", laid_internal_strconv_uint64pow10), ("unicode/utf8.acceptRanges", laid_unicode_utf8_acceptRanges), ("unicode/utf8.first", laid_unicode_utf8_first)], narrowed := true }
def IplReclaimsUptoSaid : Prop := iplReclaimsUptoRow.holds Tryz.pinned (OpenSpec.upto iplReclaimsSpec)

/-- 'midrangelaw11.IplOnce', WHERE WHAT IT READS IS OF BULK AT MOST 1048576: true; the input reads as it did. -/
def iplOnceUptoRow : OpenClaim := { program := "ytiddpfhpmodfbaagreatdoor", sum := "799463005ab1108e40bf4f9bdbc7aee8c2d125b8328de6724ab3ea556a477a05", func := "midrange/midrangelaw11.IplOnce", spec := "iplOnce", inPlace := ["internal/abi.NoEscape", "internal/bytealg.MakeNoZero", "internal/bytealg.IndexByteString", "internal/bytealg.IndexString"], unfollowed := true, recurses := true, named := ["unicode/utf8.first", "unicode/utf8.acceptRanges", "internal/bytealg.MaxLen", "internal/strconv.uint64pow10", "math/bits.deBruijn32tab", "math/bits.deBruijn64tab"], apart := false, laid := [("math/bits.deBruijn32tab", laid_math_bits_deBruijn32tab), ("math/bits.deBruijn64tab", laid_math_bits_deBruijn64tab), ("internal/strconv.uint64pow10", laid_internal_strconv_uint64pow10), ("unicode/utf8.acceptRanges", laid_unicode_utf8_acceptRanges), ("unicode/utf8.first", laid_unicode_utf8_first)], narrowed := true }
def IplOnceUptoSaid : Prop := iplOnceUptoRow.holds Tryz.pinned (OpenSpec.upto iplOnceSpec)

/-- 'midrangelaw11.IplOwns', WHERE WHAT IT READS IS OF BULK AT MOST 1048576: true; the input reads as it did. -/
def iplOwnsUptoRow : OpenClaim := { program := "ytiddpfhpmodfbaagreatdoor", sum := "799463005ab1108e40bf4f9bdbc7aee8c2d125b8328de6724ab3ea556a477a05", func := "midrange/midrangelaw11.IplOwns", spec := "iplOwns", inPlace := ["internal/abi.NoEscape", "internal/bytealg.MakeNoZero", "internal/bytealg.IndexByteString", "internal/bytealg.IndexString"], unfollowed := true, recurses := true, named := ["unicode/utf8.first", "unicode/utf8.acceptRanges", "internal/bytealg.MaxLen", "internal/strconv.uint64pow10", "math/bits.deBruijn32tab", "math/bits.deBruijn64tab"], apart := false, laid := [("math/bits.deBruijn32tab", laid_math_bits_deBruijn32tab), ("math/bits.deBruijn64tab", laid_math_bits_deBruijn64tab), ("internal/strconv.uint64pow10", laid_internal_strconv_uint64pow10), ("unicode/utf8.acceptRanges", laid_unicode_utf8_acceptRanges), ("unicode/utf8.first", laid_unicode_utf8_first)], narrowed := true }
def IplOwnsUptoSaid : Prop := iplOwnsUptoRow.holds Tryz.pinned (OpenSpec.upto iplOwnsSpec)

/-- 'midrangelaw11.IplFinds', WHERE WHAT IT READS IS OF BULK AT MOST 1048576: true; the input reads as it did. -/
def iplFindsUptoRow : OpenClaim := { program := "ytiddpfhpmodfbaagreatdoor", sum := "799463005ab1108e40bf4f9bdbc7aee8c2d125b8328de6724ab3ea556a477a05", func := "midrange/midrangelaw11.IplFinds", spec := "iplFinds", inPlace := ["internal/abi.NoEscape", "internal/bytealg.MakeNoZero", "internal/bytealg.IndexByteString", "internal/bytealg.IndexString"], unfollowed := true, recurses := true, named := ["unicode/utf8.first", "unicode/utf8.acceptRanges", "internal/bytealg.MaxLen", "internal/strconv.uint64pow10", "math/bits.deBruijn32tab", "math/bits.deBruijn64tab"], apart := false, laid := [("math/bits.deBruijn32tab", laid_math_bits_deBruijn32tab), ("math/bits.deBruijn64tab", laid_math_bits_deBruijn64tab), ("internal/strconv.uint64pow10", laid_internal_strconv_uint64pow10), ("unicode/utf8.acceptRanges", laid_unicode_utf8_acceptRanges), ("unicode/utf8.first", laid_unicode_utf8_first)], narrowed := true }
def IplFindsUptoSaid : Prop := iplFindsUptoRow.holds Tryz.pinned (OpenSpec.upto iplFindsSpec)

end Rows
end Go.Proofs.YtiddpfhpmodfbaaGreatDoor
