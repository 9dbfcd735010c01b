/-
  DERIVED. GIVEN WITH THE SEED: THE CARDS: each row of YtoabahlaicgmjaaDoorRows.lean that lists a variable, with what it lists TIED to the program's text (the seventh form; the later family's looks); each row that meets fmt, with fmt's text TOLD by the authors' own Lean function (tested against real Go, not proved from fmt's source: count such statements apart). THE CARD IS WHAT COUNTS. Prove the row's statement (the work); the ties are given (YtoabahlaicgmjaaDoorTie.lean); close each card by the builder's one call (the guide's Derived/Test/ToyasCard.lean, 'card_holds'). Laid BY PROGRAM, IN A SANDBOX (cutbox-door.mjs). By AI agents, Wed Nov 11 2026. No macro, syntax, notation, axiom, sorry.
-/
import Derived.Test.YtoabahlaicgmjaaDoorRows
import GoSem.ClaimSeven
namespace Go.Proofs.YtoabahlaicgmjaaDoor
namespace Rows

/-- THE TIED CARD OF 'midrangelaw04.SegmentUndoes'. -/
def segmentUndoesCard : Claim7 := { stood := { row := segmentUndoesRow, standIns := [], harness := (true, "e86f51b405bbb80926833bc6ff6d2850fe0e7b076b073b4cac6ae02ff3efd287"), looks := false }, kinds := [], alts := [], laidByText := true, laidKinds := [.data, .pinned], laidTests := true, laidLooks := .later }
def SegmentUndoesCardSaid : Prop := Claim7.holds Tryd.pinned (.plain (OpenSpec.ofChange segmentUndoesSpec)) segmentUndoesCard

/-- THE TIED CARD OF 'midrangelaw04.SegmentUndone'. -/
def segmentUndoneCard : Claim7 := { stood := { row := segmentUndoneRow, standIns := [], harness := (true, "e86f51b405bbb80926833bc6ff6d2850fe0e7b076b073b4cac6ae02ff3efd287"), looks := false }, kinds := [], alts := [], laidByText := true, laidKinds := [.data, .pinned], laidTests := true, laidLooks := .later }
def SegmentUndoneCardSaid : Prop := Claim7.holds Tryd.pinned (.plain (OpenSpec.ofChange segmentUndoneSpec)) segmentUndoneCard

/-- THE SECOND FORM's CARD OF 'midrangelaw04.SegmentUndoes'. -/
def segmentUndoesUptoCard : Claim7 := { stood := { row := segmentUndoesUptoRow, standIns := [], harness := (true, "e86f51b405bbb80926833bc6ff6d2850fe0e7b076b073b4cac6ae02ff3efd287"), looks := false }, kinds := [], alts := [], laidByText := true, laidKinds := [.data, .pinned], laidTests := true, laidLooks := .later }
def SegmentUndoesUptoCardSaid : Prop := Claim7.holds Tryd.pinned (.plain (OpenSpec.upto segmentUndoesSpec)) segmentUndoesUptoCard

/-- THE SECOND FORM's CARD OF 'midrangelaw04.SegmentUndone'. -/
def segmentUndoneUptoCard : Claim7 := { stood := { row := segmentUndoneUptoRow, standIns := [], harness := (true, "e86f51b405bbb80926833bc6ff6d2850fe0e7b076b073b4cac6ae02ff3efd287"), looks := false }, kinds := [], alts := [], laidByText := true, laidKinds := [.data, .pinned], laidTests := true, laidLooks := .later }
def SegmentUndoneUptoCardSaid : Prop := Claim7.holds Tryd.pinned (.plain (OpenSpec.upto segmentUndoneSpec)) segmentUndoneUptoCard
end Rows
end Go.Proofs.YtoabahlaicgmjaaDoor
