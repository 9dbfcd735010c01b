/-
  No cell of these rows narrows 'for every input' (looked for: loops, veiled, ifaces, maps, wideKeys, modest, calm, conditions, laid).
  DERIVED. THE GIVEN ROWS OF THIS SEAT. 7 by the template 'for every input the law returns true; each argument reads behind the call as it read before'; 0 by the template 'total and deterministic' (their statements: YtoabahlaicgmjaaTotals.lean).
  GIVEN WITH THE SEED: the statements are not yours to turn. If you find one false, say at which input.
  Laid BY PROGRAM, IN A SANDBOX (cutbox-rows.mjs): the forced cells as the released guide's own fill.sh prints them over the translation d190c6bedcf2b114… (all of the seat's roots in one cut). By AI agents, Wed Nov 11 2026. No macro, syntax, notation, axiom, sorry.
-/
import Derived.Test.YtoabahlaicgmjaaChecked
import GoSem.Claim
import GoSem.ClaimJoined
import GoSem.ClaimMapViews
import Derived.JoinedTies
import Derived.KernelRfl
namespace Go.Proofs.Ytoabahlaicgmjaa
/- THE CELL 'sum', in the pinned program and in every row, IS THE sha256 OF THE DUMP (.gsa) THAT YtoabahlaicgmjaaProg.lean LOADS. Nothing in Lean hashes anything: it is a label: what it is worth is what the hold of that sum in a sandbox is worth. -/
noncomputable def Try.pinned : Pinned := { name := "ytoabahlaicgmjaa", sum := "d190c6bedcf2b114c6ffd94e1d9ebc0ad1d419c770a0700f9fee669f1047247b", checked := Try.checked }
namespace Rows
def none {H : Type} : Left H := { results := [], args := [] }

/-- 'midrangelaw04.SegmentCreates': WHATEVER THE INPUT: true; the input reads as it did. -/
def segmentCreatesSpec : ChangeSpec := { name := "segmentCreates", fn := fun _ => fun
  | [d1, d2, d3] => { results := [.lit (.bool true)], args := [d1, d2, d3] }
  | _ => none }
def segmentCreatesRow : OpenClaim := { program := "ytoabahlaicgmjaa", sum := "d190c6bedcf2b114c6ffd94e1d9ebc0ad1d419c770a0700f9fee669f1047247b", func := "midrange/midrangelaw04.SegmentCreates", spec := "segmentCreates", inPlace := ["internal/abi.NoEscape", "internal/bytealg.MakeNoZero"], unfollowed := true, recurses := true, apart := false }
def SegmentCreatesSaid : Prop := segmentCreatesRow.holds Try.pinned (OpenSpec.ofChange segmentCreatesSpec)

/-- ITS FALSE NEIGHBOUR: 'it returns false'. Refute it at one input. -/
def segmentCreatesWrong : ChangeSpec := { name := "segmentCreates", fn := fun _ => fun
  | [d1, d2, d3] => { results := [.lit (.bool false)], args := [d1, d2, d3] }
  | _ => none }
def SegmentCreatesWrongFalsely : Prop := segmentCreatesRow.holds Try.pinned (OpenSpec.ofChange segmentCreatesWrong)

/-- 'midrangelaw04.SegmentChecks': WHATEVER THE INPUT: true; the input reads as it did. -/
def segmentChecksSpec : ChangeSpec := { name := "segmentChecks", fn := fun _ => fun
  | [d] => { results := [.lit (.bool true)], args := [d] }
  | _ => none }
def segmentChecksRow : OpenClaim := { program := "ytoabahlaicgmjaa", sum := "d190c6bedcf2b114c6ffd94e1d9ebc0ad1d419c770a0700f9fee669f1047247b", func := "midrange/midrangelaw04.SegmentChecks", spec := "segmentChecks", inPlace := ["internal/abi.NoEscape", "internal/bytealg.MakeNoZero"], unfollowed := true, recurses := true, apart := false }
def SegmentChecksSaid : Prop := segmentChecksRow.holds Try.pinned (OpenSpec.ofChange segmentChecksSpec)

/-- ITS FALSE NEIGHBOUR: 'it returns false'. Refute it at one input. -/
def segmentChecksWrong : ChangeSpec := { name := "segmentChecks", fn := fun _ => fun
  | [d] => { results := [.lit (.bool false)], args := [d] }
  | _ => none }
def SegmentChecksWrongFalsely : Prop := segmentChecksRow.holds Try.pinned (OpenSpec.ofChange segmentChecksWrong)

/-- 'midrangelaw04.SegmentSizes': WHATEVER THE INPUT: true; the input reads as it did. -/
def segmentSizesSpec : ChangeSpec := { name := "segmentSizes", fn := fun _ => fun
  | [d1, d2, d3] => { results := [.lit (.bool true)], args := [d1, d2, d3] }
  | _ => none }
def segmentSizesRow : OpenClaim := { program := "ytoabahlaicgmjaa", sum := "d190c6bedcf2b114c6ffd94e1d9ebc0ad1d419c770a0700f9fee669f1047247b", func := "midrange/midrangelaw04.SegmentSizes", spec := "segmentSizes", inPlace := ["internal/abi.NoEscape", "internal/bytealg.MakeNoZero"], unfollowed := true, recurses := true, apart := false }
def SegmentSizesSaid : Prop := segmentSizesRow.holds Try.pinned (OpenSpec.ofChange segmentSizesSpec)

/-- ITS FALSE NEIGHBOUR: 'it returns false'. Refute it at one input. -/
def segmentSizesWrong : ChangeSpec := { name := "segmentSizes", fn := fun _ => fun
  | [d1, d2, d3] => { results := [.lit (.bool false)], args := [d1, d2, d3] }
  | _ => none }
def SegmentSizesWrongFalsely : Prop := segmentSizesRow.holds Try.pinned (OpenSpec.ofChange segmentSizesWrong)

/-- 'midrangelaw04.SegmentBytes': WHATEVER THE INPUT: true; the input reads as it did. -/
def segmentBytesSpec : ChangeSpec := { name := "segmentBytes", fn := fun _ => fun
  | [d1, d2] => { results := [.lit (.bool true)], args := [d1, d2] }
  | _ => none }
def segmentBytesRow : OpenClaim := { program := "ytoabahlaicgmjaa", sum := "d190c6bedcf2b114c6ffd94e1d9ebc0ad1d419c770a0700f9fee669f1047247b", func := "midrange/midrangelaw04.SegmentBytes", spec := "segmentBytes", inPlace := ["internal/abi.NoEscape", "internal/bytealg.MakeNoZero"], unfollowed := true, recurses := true, apart := false }
def SegmentBytesSaid : Prop := segmentBytesRow.holds Try.pinned (OpenSpec.ofChange segmentBytesSpec)

/-- ITS FALSE NEIGHBOUR: 'it returns false'. Refute it at one input. -/
def segmentBytesWrong : ChangeSpec := { name := "segmentBytes", fn := fun _ => fun
  | [d1, d2] => { results := [.lit (.bool false)], args := [d1, d2] }
  | _ => none }
def SegmentBytesWrongFalsely : Prop := segmentBytesRow.holds Try.pinned (OpenSpec.ofChange segmentBytesWrong)

/-- 'midrangelaw04.SegmentReads': WHATEVER THE INPUT: true; the input reads as it did. -/
def segmentReadsSpec : ChangeSpec := { name := "segmentReads", fn := fun _ => fun
  | [d1, d2] => { results := [.lit (.bool true)], args := [d1, d2] }
  | _ => none }
def segmentReadsRow : OpenClaim := { program := "ytoabahlaicgmjaa", sum := "d190c6bedcf2b114c6ffd94e1d9ebc0ad1d419c770a0700f9fee669f1047247b", func := "midrange/midrangelaw04.SegmentReads", spec := "segmentReads", inPlace := ["internal/abi.NoEscape", "internal/bytealg.MakeNoZero"], unfollowed := true, recurses := true, apart := false }
def SegmentReadsSaid : Prop := segmentReadsRow.holds Try.pinned (OpenSpec.ofChange segmentReadsSpec)

/-- ITS FALSE NEIGHBOUR: 'it returns false'. Refute it at one input. -/
def segmentReadsWrong : ChangeSpec := { name := "segmentReads", fn := fun _ => fun
  | [d1, d2] => { results := [.lit (.bool false)], args := [d1, d2] }
  | _ => none }
def SegmentReadsWrongFalsely : Prop := segmentReadsRow.holds Try.pinned (OpenSpec.ofChange segmentReadsWrong)

/-- 'midrangelaw04.SegmentApplies': WHATEVER THE INPUT: true; the input reads as it did. -/
def segmentAppliesSpec : ChangeSpec := { name := "segmentApplies", fn := fun _ => fun
  | [d1, d2] => { results := [.lit (.bool true)], args := [d1, d2] }
  | _ => none }
def segmentAppliesRow : OpenClaim := { program := "ytoabahlaicgmjaa", sum := "d190c6bedcf2b114c6ffd94e1d9ebc0ad1d419c770a0700f9fee669f1047247b", func := "midrange/midrangelaw04.SegmentApplies", spec := "segmentApplies", inPlace := ["internal/abi.NoEscape", "internal/bytealg.MakeNoZero"], unfollowed := true, recurses := true, apart := false }
def SegmentAppliesSaid : Prop := segmentAppliesRow.holds Try.pinned (OpenSpec.ofChange segmentAppliesSpec)

/-- ITS FALSE NEIGHBOUR: 'it returns false'. Refute it at one input. -/
def segmentAppliesWrong : ChangeSpec := { name := "segmentApplies", fn := fun _ => fun
  | [d1, d2] => { results := [.lit (.bool false)], args := [d1, d2] }
  | _ => none }
def SegmentAppliesWrongFalsely : Prop := segmentAppliesRow.holds Try.pinned (OpenSpec.ofChange segmentAppliesWrong)

/-- 'midrangelaw04.SegmentNumbers': WHATEVER THE INPUT: true; the input reads as it did. -/
def segmentNumbersSpec : ChangeSpec := { name := "segmentNumbers", fn := fun _ => fun
  | [d1, d2] => { results := [.lit (.bool true)], args := [d1, d2] }
  | _ => none }
def segmentNumbersRow : OpenClaim := { program := "ytoabahlaicgmjaa", sum := "d190c6bedcf2b114c6ffd94e1d9ebc0ad1d419c770a0700f9fee669f1047247b", func := "midrange/midrangelaw04.SegmentNumbers", spec := "segmentNumbers", inPlace := ["internal/abi.NoEscape", "internal/bytealg.MakeNoZero"], unfollowed := true, recurses := true, apart := false }
def SegmentNumbersSaid : Prop := segmentNumbersRow.holds Try.pinned (OpenSpec.ofChange segmentNumbersSpec)

/-- ITS FALSE NEIGHBOUR: 'it returns false'. Refute it at one input. -/
def segmentNumbersWrong : ChangeSpec := { name := "segmentNumbers", fn := fun _ => fun
  | [d1, d2] => { results := [.lit (.bool false)], args := [d1, d2] }
  | _ => none }
def SegmentNumbersWrongFalsely : Prop := segmentNumbersRow.holds Try.pinned (OpenSpec.ofChange segmentNumbersWrong)

/- THE SECOND FORM. 'bulk': how many values and letters a reading holds, each counted each time it is reached (what is shared counts as often as it is met; a slice's spare places count too). A statement '..UptoSaid' is the law's where the arguments, and the package variables that the reading takes, are together of bulk at most 1048576: NARROWER than '..Said'. Prove '..Said' where nothing that the law and all that it calls make is longer than what came in: it says more and counts as full. Else prove '..UptoSaid'. A law counts once. -/
mutual
def uptoBulk {H : Type} : DataW H → Nat
  | .lit (.string bytes) => bytes.length + 1
  | .lit _ => 1
  | .nil => 1
  | .ptr d => uptoBulk d + 1
  | .slice elems spare => uptoBulkAll elems + uptoBulkAll spare + 1
  | .agg parts => uptoBulkAll parts + 1
  | .iface _ d => uptoBulk d + 1
  | .map entries => uptoBulkEntries entries + 1
  | .held _ => 1
def uptoBulkAll {H : Type} : List (DataW H) → Nat
  | [] => 0
  | d :: r => uptoBulk d + uptoBulkAll r
def uptoBulkEntries {H : Type} : List (Lit × DataW H) → Nat
  | [] => 0
  | x :: r => uptoBulkEntry x + uptoBulkEntries r
def uptoBulkEntry {H : Type} : Lit × DataW H → Nat
  | (.string bytes, d) => bytes.length + uptoBulk d + 1
  | (_, d) => uptoBulk d + 1
 end
def uptoSmall : (H : Type) → List (DataW H) → Bool := fun _ ds => decide (uptoBulkAll ds ≤ 1048576)
def OpenSpec.upto (s : _root_.Go.ChangeSpec) : _root_.Go.OpenSpec := { _root_.Go.OpenSpec.ofChange s with cond := some uptoSmall }

/-- 'midrangelaw04.SegmentCreates', WHERE WHAT IT READS IS OF BULK AT MOST 1048576: true; the input reads as it did. -/
def segmentCreatesUptoRow : OpenClaim := { program := "ytoabahlaicgmjaa", sum := "d190c6bedcf2b114c6ffd94e1d9ebc0ad1d419c770a0700f9fee669f1047247b", func := "midrange/midrangelaw04.SegmentCreates", spec := "segmentCreates", inPlace := ["internal/abi.NoEscape", "internal/bytealg.MakeNoZero"], unfollowed := true, recurses := true, apart := false, narrowed := true }
def SegmentCreatesUptoSaid : Prop := segmentCreatesUptoRow.holds Try.pinned (OpenSpec.upto segmentCreatesSpec)

/-- 'midrangelaw04.SegmentChecks', WHERE WHAT IT READS IS OF BULK AT MOST 1048576: true; the input reads as it did. -/
def segmentChecksUptoRow : OpenClaim := { program := "ytoabahlaicgmjaa", sum := "d190c6bedcf2b114c6ffd94e1d9ebc0ad1d419c770a0700f9fee669f1047247b", func := "midrange/midrangelaw04.SegmentChecks", spec := "segmentChecks", inPlace := ["internal/abi.NoEscape", "internal/bytealg.MakeNoZero"], unfollowed := true, recurses := true, apart := false, narrowed := true }
def SegmentChecksUptoSaid : Prop := segmentChecksUptoRow.holds Try.pinned (OpenSpec.upto segmentChecksSpec)

/-- 'midrangelaw04.SegmentSizes', WHERE WHAT IT READS IS OF BULK AT MOST 1048576: true; the input reads as it did. -/
def segmentSizesUptoRow : OpenClaim := { program := "ytoabahlaicgmjaa", sum := "d190c6bedcf2b114c6ffd94e1d9ebc0ad1d419c770a0700f9fee669f1047247b", func := "midrange/midrangelaw04.SegmentSizes", spec := "segmentSizes", inPlace := ["internal/abi.NoEscape", "internal/bytealg.MakeNoZero"], unfollowed := true, recurses := true, apart := false, narrowed := true }
def SegmentSizesUptoSaid : Prop := segmentSizesUptoRow.holds Try.pinned (OpenSpec.upto segmentSizesSpec)

/-- 'midrangelaw04.SegmentBytes', WHERE WHAT IT READS IS OF BULK AT MOST 1048576: true; the input reads as it did. -/
def segmentBytesUptoRow : OpenClaim := { program := "ytoabahlaicgmjaa", sum := "d190c6bedcf2b114c6ffd94e1d9ebc0ad1d419c770a0700f9fee669f1047247b", func := "midrange/midrangelaw04.SegmentBytes", spec := "segmentBytes", inPlace := ["internal/abi.NoEscape", "internal/bytealg.MakeNoZero"], unfollowed := true, recurses := true, apart := false, narrowed := true }
def SegmentBytesUptoSaid : Prop := segmentBytesUptoRow.holds Try.pinned (OpenSpec.upto segmentBytesSpec)

/-- 'midrangelaw04.SegmentReads', WHERE WHAT IT READS IS OF BULK AT MOST 1048576: true; the input reads as it did. -/
def segmentReadsUptoRow : OpenClaim := { program := "ytoabahlaicgmjaa", sum := "d190c6bedcf2b114c6ffd94e1d9ebc0ad1d419c770a0700f9fee669f1047247b", func := "midrange/midrangelaw04.SegmentReads", spec := "segmentReads", inPlace := ["internal/abi.NoEscape", "internal/bytealg.MakeNoZero"], unfollowed := true, recurses := true, apart := false, narrowed := true }
def SegmentReadsUptoSaid : Prop := segmentReadsUptoRow.holds Try.pinned (OpenSpec.upto segmentReadsSpec)

/-- 'midrangelaw04.SegmentApplies', WHERE WHAT IT READS IS OF BULK AT MOST 1048576: true; the input reads as it did. -/
def segmentAppliesUptoRow : OpenClaim := { program := "ytoabahlaicgmjaa", sum := "d190c6bedcf2b114c6ffd94e1d9ebc0ad1d419c770a0700f9fee669f1047247b", func := "midrange/midrangelaw04.SegmentApplies", spec := "segmentApplies", inPlace := ["internal/abi.NoEscape", "internal/bytealg.MakeNoZero"], unfollowed := true, recurses := true, apart := false, narrowed := true }
def SegmentAppliesUptoSaid : Prop := segmentAppliesUptoRow.holds Try.pinned (OpenSpec.upto segmentAppliesSpec)

/-- 'midrangelaw04.SegmentNumbers', WHERE WHAT IT READS IS OF BULK AT MOST 1048576: true; the input reads as it did. -/
def segmentNumbersUptoRow : OpenClaim := { program := "ytoabahlaicgmjaa", sum := "d190c6bedcf2b114c6ffd94e1d9ebc0ad1d419c770a0700f9fee669f1047247b", func := "midrange/midrangelaw04.SegmentNumbers", spec := "segmentNumbers", inPlace := ["internal/abi.NoEscape", "internal/bytealg.MakeNoZero"], unfollowed := true, recurses := true, apart := false, narrowed := true }
def SegmentNumbersUptoSaid : Prop := segmentNumbersUptoRow.holds Try.pinned (OpenSpec.upto segmentNumbersSpec)

end Rows
end Go.Proofs.Ytoabahlaicgmjaa
