/-
  No cell of these rows narrows 'for every input' (looked for: loops, veiled, ifaces, maps, wideKeys, modest, calm, conditions, laid).
  DERIVED. THE GIVEN ROWS OF THIS SEAT. 8 by the template 'for every input the law returns true; each argument reads behind the call as it read before'; 0 by the template 'total and deterministic' (their statements: YtagcodkkkebnhaaTotals.lean).
  GIVEN WITH THE SEED: the statements are not yours to turn. If you find one false, say at which input.
  Laid BY PROGRAM, IN A SANDBOX (cutbox-rows.mjs): the forced cells as the released guide's own fill.sh prints them over the translation f036518746ec9dd9… (all of the seat's roots in one cut). By AI agents, Wed Nov 11 2026. No macro, syntax, notation, axiom, sorry.
-/
import Derived.Test.YtagcodkkkebnhaaChecked
import GoSem.Claim
import GoSem.ClaimJoined
import GoSem.ClaimMapViews
import Derived.JoinedTies
import Derived.KernelRfl
namespace Go.Proofs.Ytagcodkkkebnhaa
/- THE CELL 'sum', in the pinned program and in every row, IS THE sha256 OF THE DUMP (.gsa) THAT YtagcodkkkebnhaaProg.lean LOADS. Nothing in Lean hashes anything: it is a label: what it is worth is what the hold of that sum in a sandbox is worth. -/
noncomputable def Try.pinned : Pinned := { name := "ytagcodkkkebnhaa", sum := "f036518746ec9dd9d0cc72b0822f05008fb60cda89cc99daa8668a8acfa37670", checked := Try.checked }
namespace Rows
def none {H : Type} : Left H := { results := [], args := [] }

/-- 'midrangelaw05.PagingChecks': WHATEVER THE INPUT: true; the input reads as it did. -/
def pagingChecksSpec : ChangeSpec := { name := "pagingChecks", fn := fun _ => fun
  | [d] => { results := [.lit (.bool true)], args := [d] }
  | _ => none }
def pagingChecksRow : OpenClaim := { program := "ytagcodkkkebnhaa", sum := "f036518746ec9dd9d0cc72b0822f05008fb60cda89cc99daa8668a8acfa37670", func := "midrange/midrangelaw05.PagingChecks", spec := "pagingChecks", unfollowed := true, recurses := true, apart := false }
def PagingChecksSaid : Prop := pagingChecksRow.holds Try.pinned (OpenSpec.ofChange pagingChecksSpec)

/-- ITS FALSE NEIGHBOUR: 'it returns false'. Refute it at one input. -/
def pagingChecksWrong : ChangeSpec := { name := "pagingChecks", fn := fun _ => fun
  | [d] => { results := [.lit (.bool false)], args := [d] }
  | _ => none }
def PagingChecksWrongFalsely : Prop := pagingChecksRow.holds Try.pinned (OpenSpec.ofChange pagingChecksWrong)

/-- 'midrangelaw05.PagingBegins': WHATEVER THE INPUT: true; the input reads as it did. -/
def pagingBeginsSpec : ChangeSpec := { name := "pagingBegins", fn := fun _ => fun
  | [d1, d2] => { results := [.lit (.bool true)], args := [d1, d2] }
  | _ => none }
def pagingBeginsRow : OpenClaim := { program := "ytagcodkkkebnhaa", sum := "f036518746ec9dd9d0cc72b0822f05008fb60cda89cc99daa8668a8acfa37670", func := "midrange/midrangelaw05.PagingBegins", spec := "pagingBegins", unfollowed := true, recurses := true, apart := false }
def PagingBeginsSaid : Prop := pagingBeginsRow.holds Try.pinned (OpenSpec.ofChange pagingBeginsSpec)

/-- ITS FALSE NEIGHBOUR: 'it returns false'. Refute it at one input. -/
def pagingBeginsWrong : ChangeSpec := { name := "pagingBegins", fn := fun _ => fun
  | [d1, d2] => { results := [.lit (.bool false)], args := [d1, d2] }
  | _ => none }
def PagingBeginsWrongFalsely : Prop := pagingBeginsRow.holds Try.pinned (OpenSpec.ofChange pagingBeginsWrong)

/-- 'midrangelaw05.PagingFound': WHATEVER THE INPUT: true; the input reads as it did. -/
def pagingFoundSpec : ChangeSpec := { name := "pagingFound", fn := fun _ => fun
  | [d1, d2] => { results := [.lit (.bool true)], args := [d1, d2] }
  | _ => none }
def pagingFoundRow : OpenClaim := { program := "ytagcodkkkebnhaa", sum := "f036518746ec9dd9d0cc72b0822f05008fb60cda89cc99daa8668a8acfa37670", func := "midrange/midrangelaw05.PagingFound", spec := "pagingFound", unfollowed := true, recurses := true, apart := false }
def PagingFoundSaid : Prop := pagingFoundRow.holds Try.pinned (OpenSpec.ofChange pagingFoundSpec)

/-- ITS FALSE NEIGHBOUR: 'it returns false'. Refute it at one input. -/
def pagingFoundWrong : ChangeSpec := { name := "pagingFound", fn := fun _ => fun
  | [d1, d2] => { results := [.lit (.bool false)], args := [d1, d2] }
  | _ => none }
def PagingFoundWrongFalsely : Prop := pagingFoundRow.holds Try.pinned (OpenSpec.ofChange pagingFoundWrong)

/-- 'midrangelaw05.PagingMore': WHATEVER THE INPUT: true; the input reads as it did. -/
def pagingMoreSpec : ChangeSpec := { name := "pagingMore", fn := fun _ => fun
  | [d1, d2, d3] => { results := [.lit (.bool true)], args := [d1, d2, d3] }
  | _ => none }
def pagingMoreRow : OpenClaim := { program := "ytagcodkkkebnhaa", sum := "f036518746ec9dd9d0cc72b0822f05008fb60cda89cc99daa8668a8acfa37670", func := "midrange/midrangelaw05.PagingMore", spec := "pagingMore", unfollowed := true, recurses := true, apart := false }
def PagingMoreSaid : Prop := pagingMoreRow.holds Try.pinned (OpenSpec.ofChange pagingMoreSpec)

/-- ITS FALSE NEIGHBOUR: 'it returns false'. Refute it at one input. -/
def pagingMoreWrong : ChangeSpec := { name := "pagingMore", fn := fun _ => fun
  | [d1, d2, d3] => { results := [.lit (.bool false)], args := [d1, d2, d3] }
  | _ => none }
def PagingMoreWrongFalsely : Prop := pagingMoreRow.holds Try.pinned (OpenSpec.ofChange pagingMoreWrong)

/-- 'midrangelaw05.PagingFinds': WHATEVER THE INPUT: true; the input reads as it did. -/
def pagingFindsSpec : ChangeSpec := { name := "pagingFinds", fn := fun _ => fun
  | [d1, d2, d3] => { results := [.lit (.bool true)], args := [d1, d2, d3] }
  | _ => none }
def pagingFindsRow : OpenClaim := { program := "ytagcodkkkebnhaa", sum := "f036518746ec9dd9d0cc72b0822f05008fb60cda89cc99daa8668a8acfa37670", func := "midrange/midrangelaw05.PagingFinds", spec := "pagingFinds", unfollowed := true, recurses := true, apart := false }
def PagingFindsSaid : Prop := pagingFindsRow.holds Try.pinned (OpenSpec.ofChange pagingFindsSpec)

/-- ITS FALSE NEIGHBOUR: 'it returns false'. Refute it at one input. -/
def pagingFindsWrong : ChangeSpec := { name := "pagingFinds", fn := fun _ => fun
  | [d1, d2, d3] => { results := [.lit (.bool false)], args := [d1, d2, d3] }
  | _ => none }
def PagingFindsWrongFalsely : Prop := pagingFindsRow.holds Try.pinned (OpenSpec.ofChange pagingFindsWrong)

/-- 'midrangelaw05.PagingStores': WHATEVER THE INPUT: true; the input reads as it did. -/
def pagingStoresSpec : ChangeSpec := { name := "pagingStores", fn := fun _ => fun
  | [d] => { results := [.lit (.bool true)], args := [d] }
  | _ => none }
def pagingStoresRow : OpenClaim := { program := "ytagcodkkkebnhaa", sum := "f036518746ec9dd9d0cc72b0822f05008fb60cda89cc99daa8668a8acfa37670", func := "midrange/midrangelaw05.PagingStores", spec := "pagingStores", unfollowed := true, recurses := true, apart := false }
def PagingStoresSaid : Prop := pagingStoresRow.holds Try.pinned (OpenSpec.ofChange pagingStoresSpec)

/-- ITS FALSE NEIGHBOUR: 'it returns false'. Refute it at one input. -/
def pagingStoresWrong : ChangeSpec := { name := "pagingStores", fn := fun _ => fun
  | [d] => { results := [.lit (.bool false)], args := [d] }
  | _ => none }
def PagingStoresWrongFalsely : Prop := pagingStoresRow.holds Try.pinned (OpenSpec.ofChange pagingStoresWrong)

/-- 'midrangelaw05.PagingKept': WHATEVER THE INPUT: true; the input reads as it did. -/
def pagingKeptSpec : ChangeSpec := { name := "pagingKept", fn := fun _ => fun
  | [d1, d2] => { results := [.lit (.bool true)], args := [d1, d2] }
  | _ => none }
def pagingKeptRow : OpenClaim := { program := "ytagcodkkkebnhaa", sum := "f036518746ec9dd9d0cc72b0822f05008fb60cda89cc99daa8668a8acfa37670", func := "midrange/midrangelaw05.PagingKept", spec := "pagingKept", unfollowed := true, recurses := true, apart := false }
def PagingKeptSaid : Prop := pagingKeptRow.holds Try.pinned (OpenSpec.ofChange pagingKeptSpec)

/-- ITS FALSE NEIGHBOUR: 'it returns false'. Refute it at one input. -/
def pagingKeptWrong : ChangeSpec := { name := "pagingKept", fn := fun _ => fun
  | [d1, d2] => { results := [.lit (.bool false)], args := [d1, d2] }
  | _ => none }
def PagingKeptWrongFalsely : Prop := pagingKeptRow.holds Try.pinned (OpenSpec.ofChange pagingKeptWrong)

/-- 'midrangelaw05.PagingSame': WHATEVER THE INPUT: true; the input reads as it did. -/
def pagingSameSpec : ChangeSpec := { name := "pagingSame", fn := fun _ => fun
  | [d1, d2] => { results := [.lit (.bool true)], args := [d1, d2] }
  | _ => none }
def pagingSameRow : OpenClaim := { program := "ytagcodkkkebnhaa", sum := "f036518746ec9dd9d0cc72b0822f05008fb60cda89cc99daa8668a8acfa37670", func := "midrange/midrangelaw05.PagingSame", spec := "pagingSame", unfollowed := true, recurses := true, apart := false }
def PagingSameSaid : Prop := pagingSameRow.holds Try.pinned (OpenSpec.ofChange pagingSameSpec)

/-- ITS FALSE NEIGHBOUR: 'it returns false'. Refute it at one input. -/
def pagingSameWrong : ChangeSpec := { name := "pagingSame", fn := fun _ => fun
  | [d1, d2] => { results := [.lit (.bool false)], args := [d1, d2] }
  | _ => none }
def PagingSameWrongFalsely : Prop := pagingSameRow.holds Try.pinned (OpenSpec.ofChange pagingSameWrong)

/- THE SECOND FORM. 'bulk': how many values and letters a reading holds, each counted each time it is reached (what is shared counts as often as it is met; a slice's spare places count too). A statement '..UptoSaid' is the law's where the arguments, and the package variables that the reading takes, are together of bulk at most 1048576: NARROWER than '..Said'. Prove '..Said' where nothing that the law and all that it calls make is longer than what came in: it says more and counts as full. Else prove '..UptoSaid'. A law counts once. -/
mutual
def uptoBulk {H : Type} : DataW H → Nat
  | .lit (.string bytes) => bytes.length + 1
  | .lit _ => 1
  | .nil => 1
  | .ptr d => uptoBulk d + 1
  | .slice elems spare => uptoBulkAll elems + uptoBulkAll spare + 1
  | .agg parts => uptoBulkAll parts + 1
  | .iface _ d => uptoBulk d + 1
  | .map entries => uptoBulkEntries entries + 1
  | .held _ => 1
def uptoBulkAll {H : Type} : List (DataW H) → Nat
  | [] => 0
  | d :: r => uptoBulk d + uptoBulkAll r
def uptoBulkEntries {H : Type} : List (Lit × DataW H) → Nat
  | [] => 0
  | x :: r => uptoBulkEntry x + uptoBulkEntries r
def uptoBulkEntry {H : Type} : Lit × DataW H → Nat
  | (.string bytes, d) => bytes.length + uptoBulk d + 1
  | (_, d) => uptoBulk d + 1
 end
def uptoSmall : (H : Type) → List (DataW H) → Bool := fun _ ds => decide (uptoBulkAll ds ≤ 1048576)
def OpenSpec.upto (s : _root_.Go.ChangeSpec) : _root_.Go.OpenSpec := { _root_.Go.OpenSpec.ofChange s with cond := some uptoSmall }

/-- 'midrangelaw05.PagingChecks', WHERE WHAT IT READS IS OF BULK AT MOST 1048576: true; the input reads as it did. -/
def pagingChecksUptoRow : OpenClaim := { program := "ytagcodkkkebnhaa", sum := "f036518746ec9dd9d0cc72b0822f05008fb60cda89cc99daa8668a8acfa37670", func := "midrange/midrangelaw05.PagingChecks", spec := "pagingChecks", unfollowed := true, recurses := true, apart := false, narrowed := true }
def PagingChecksUptoSaid : Prop := pagingChecksUptoRow.holds Try.pinned (OpenSpec.upto pagingChecksSpec)

/-- 'midrangelaw05.PagingBegins', WHERE WHAT IT READS IS OF BULK AT MOST 1048576: true; the input reads as it did. -/
def pagingBeginsUptoRow : OpenClaim := { program := "ytagcodkkkebnhaa", sum := "f036518746ec9dd9d0cc72b0822f05008fb60cda89cc99daa8668a8acfa37670", func := "midrange/midrangelaw05.PagingBegins", spec := "pagingBegins", unfollowed := true, recurses := true, apart := false, narrowed := true }
def PagingBeginsUptoSaid : Prop := pagingBeginsUptoRow.holds Try.pinned (OpenSpec.upto pagingBeginsSpec)

/-- 'midrangelaw05.PagingFound', WHERE WHAT IT READS IS OF BULK AT MOST 1048576: true; the input reads as it did. -/
def pagingFoundUptoRow : OpenClaim := { program := "ytagcodkkkebnhaa", sum := "f036518746ec9dd9d0cc72b0822f05008fb60cda89cc99daa8668a8acfa37670", func := "midrange/midrangelaw05.PagingFound", spec := "pagingFound", unfollowed := true, recurses := true, apart := false, narrowed := true }
def PagingFoundUptoSaid : Prop := pagingFoundUptoRow.holds Try.pinned (OpenSpec.upto pagingFoundSpec)

/-- 'midrangelaw05.PagingMore', WHERE WHAT IT READS IS OF BULK AT MOST 1048576: true; the input reads as it did. -/
def pagingMoreUptoRow : OpenClaim := { program := "ytagcodkkkebnhaa", sum := "f036518746ec9dd9d0cc72b0822f05008fb60cda89cc99daa8668a8acfa37670", func := "midrange/midrangelaw05.PagingMore", spec := "pagingMore", unfollowed := true, recurses := true, apart := false, narrowed := true }
def PagingMoreUptoSaid : Prop := pagingMoreUptoRow.holds Try.pinned (OpenSpec.upto pagingMoreSpec)

/-- 'midrangelaw05.PagingFinds', WHERE WHAT IT READS IS OF BULK AT MOST 1048576: true; the input reads as it did. -/
def pagingFindsUptoRow : OpenClaim := { program := "ytagcodkkkebnhaa", sum := "f036518746ec9dd9d0cc72b0822f05008fb60cda89cc99daa8668a8acfa37670", func := "midrange/midrangelaw05.PagingFinds", spec := "pagingFinds", unfollowed := true, recurses := true, apart := false, narrowed := true }
def PagingFindsUptoSaid : Prop := pagingFindsUptoRow.holds Try.pinned (OpenSpec.upto pagingFindsSpec)

/-- 'midrangelaw05.PagingStores', WHERE WHAT IT READS IS OF BULK AT MOST 1048576: true; the input reads as it did. -/
def pagingStoresUptoRow : OpenClaim := { program := "ytagcodkkkebnhaa", sum := "f036518746ec9dd9d0cc72b0822f05008fb60cda89cc99daa8668a8acfa37670", func := "midrange/midrangelaw05.PagingStores", spec := "pagingStores", unfollowed := true, recurses := true, apart := false, narrowed := true }
def PagingStoresUptoSaid : Prop := pagingStoresUptoRow.holds Try.pinned (OpenSpec.upto pagingStoresSpec)

/-- 'midrangelaw05.PagingKept', WHERE WHAT IT READS IS OF BULK AT MOST 1048576: true; the input reads as it did. -/
def pagingKeptUptoRow : OpenClaim := { program := "ytagcodkkkebnhaa", sum := "f036518746ec9dd9d0cc72b0822f05008fb60cda89cc99daa8668a8acfa37670", func := "midrange/midrangelaw05.PagingKept", spec := "pagingKept", unfollowed := true, recurses := true, apart := false, narrowed := true }
def PagingKeptUptoSaid : Prop := pagingKeptUptoRow.holds Try.pinned (OpenSpec.upto pagingKeptSpec)

/-- 'midrangelaw05.PagingSame', WHERE WHAT IT READS IS OF BULK AT MOST 1048576: true; the input reads as it did. -/
def pagingSameUptoRow : OpenClaim := { program := "ytagcodkkkebnhaa", sum := "f036518746ec9dd9d0cc72b0822f05008fb60cda89cc99daa8668a8acfa37670", func := "midrange/midrangelaw05.PagingSame", spec := "pagingSame", unfollowed := true, recurses := true, apart := false, narrowed := true }
def PagingSameUptoSaid : Prop := pagingSameUptoRow.holds Try.pinned (OpenSpec.upto pagingSameSpec)

end Rows
end Go.Proofs.Ytagcodkkkebnhaa
