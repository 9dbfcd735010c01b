/-
  DERIVED. GIVEN WITH THE SEED: THE CARDS: each row of YtiddpfhpmodfbaaGreatDoorRows.lean that lists a variable, with what it lists TIED to the program's text (the seventh form; the later family's looks); each row that meets fmt, with fmt's text TOLD by the authors' own Lean function (tested against real Go, not proved from fmt's source: count such statements apart). THE CARD IS WHAT COUNTS. Prove the row's statement (the work); the ties are given (YtiddpfhpmodfbaaGreatDoorTie.lean); close each card by the builder's one call (the guide's Derived/Test/ToyasCard.lean, 'card_holds'). Laid BY PROGRAM, IN A SANDBOX (cutbox-door.mjs). By AI agents, Wed Nov 11 2026. No macro, syntax, notation, axiom, sorry.
-/
import Derived.Test.YtiddpfhpmodfbaaGreatDoorRows
import GoSem.ClaimSeven
namespace Go.Proofs.YtiddpfhpmodfbaaGreatDoor
namespace Rows

/-- THE TIED CARD OF 'midrangelaw11.IplReads'. -/
def iplReadsCard : Claim7 := { stood := { row := iplReadsRow, standIns := [], harness := (true, "f78d70870efb7d5312adbe862833717c3b7a0bf7cd4480e0ae233b54db1ec3ef"), looks := false }, kinds := [], alts := [], laidByText := true, laidKinds := [.data, .pinned], laidTests := true, laidLooks := .later }
def IplReadsCardSaid : Prop := Claim7.holds Tryz.pinned (.plain (OpenSpec.ofChange iplReadsSpec)) iplReadsCard

/-- THE TIED CARD OF 'midrangelaw11.IplChecks'. -/
def iplChecksCard : Claim7 := { stood := { row := iplChecksRow, standIns := [], harness := (true, "f78d70870efb7d5312adbe862833717c3b7a0bf7cd4480e0ae233b54db1ec3ef"), looks := false }, kinds := [], alts := [], laidByText := true, laidKinds := [.data, .pinned], laidTests := true, laidLooks := .later }
def IplChecksCardSaid : Prop := Claim7.holds Tryz.pinned (.plain (OpenSpec.ofChange iplChecksSpec)) iplChecksCard

/-- THE TIED CARD OF 'midrangelaw11.IplLoses'. -/
def iplLosesCard : Claim7 := { stood := { row := iplLosesRow, standIns := [], harness := (true, "f78d70870efb7d5312adbe862833717c3b7a0bf7cd4480e0ae233b54db1ec3ef"), looks := false }, kinds := [], alts := [], laidByText := true, laidKinds := [.data, .pinned], laidTests := true, laidLooks := .later }
def IplLosesCardSaid : Prop := Claim7.holds Tryz.pinned (.plain (OpenSpec.ofChange iplLosesSpec)) iplLosesCard

/-- THE TIED CARD OF 'midrangelaw11.IplRuns'. -/
def iplRunsCard : Claim7 := { stood := { row := iplRunsRow, standIns := [], harness := (true, "f78d70870efb7d5312adbe862833717c3b7a0bf7cd4480e0ae233b54db1ec3ef"), looks := false }, kinds := [], alts := [], laidByText := true, laidKinds := [.data, .pinned], laidTests := true, laidLooks := .later }
def IplRunsCardSaid : Prop := Claim7.holds Tryz.pinned (.plain (OpenSpec.ofChange iplRunsSpec)) iplRunsCard

/-- THE TIED CARD OF 'midrangelaw11.IplWhole'. -/
def iplWholeCard : Claim7 := { stood := { row := iplWholeRow, standIns := [], harness := (true, "f78d70870efb7d5312adbe862833717c3b7a0bf7cd4480e0ae233b54db1ec3ef"), looks := false }, kinds := [], alts := [], laidByText := true, laidKinds := [.data, .pinned], laidTests := true, laidLooks := .later }
def IplWholeCardSaid : Prop := Claim7.holds Tryz.pinned (.plain (OpenSpec.ofChange iplWholeSpec)) iplWholeCard

/-- THE TIED CARD OF 'midrangelaw11.IplHeaders'. -/
def iplHeadersCard : Claim7 := { stood := { row := iplHeadersRow, standIns := [], harness := (true, "f78d70870efb7d5312adbe862833717c3b7a0bf7cd4480e0ae233b54db1ec3ef"), looks := false }, kinds := [], alts := [], laidByText := true, laidKinds := [.data, .pinned], laidTests := true, laidLooks := .later }
def IplHeadersCardSaid : Prop := Claim7.holds Tryz.pinned (.plain (OpenSpec.ofChange iplHeadersSpec)) iplHeadersCard

/-- THE TIED CARD OF 'midrangelaw11.IplAsks'. -/
def iplAsksCard : Claim7 := { stood := { row := iplAsksRow, standIns := [], harness := (true, "f78d70870efb7d5312adbe862833717c3b7a0bf7cd4480e0ae233b54db1ec3ef"), looks := false }, kinds := [], alts := [], laidByText := true, laidKinds := [.data, .pinned], laidTests := true, laidLooks := .later }
def IplAsksCardSaid : Prop := Claim7.holds Tryz.pinned (.plain (OpenSpec.ofChange iplAsksSpec)) iplAsksCard

/-- THE TIED CARD OF 'midrangelaw11.IplObjects'. -/
def iplObjectsCard : Claim7 := { stood := { row := iplObjectsRow, standIns := [], harness := (true, "f78d70870efb7d5312adbe862833717c3b7a0bf7cd4480e0ae233b54db1ec3ef"), looks := false }, kinds := [], alts := [], laidByText := true, laidKinds := [.data, .pinned], laidTests := true, laidLooks := .later }
def IplObjectsCardSaid : Prop := Claim7.holds Tryz.pinned (.plain (OpenSpec.ofChange iplObjectsSpec)) iplObjectsCard

/-- THE TIED CARD OF 'midrangelaw11.IplReclaims'. -/
def iplReclaimsCard : Claim7 := { stood := { row := iplReclaimsRow, standIns := [], harness := (true, "f78d70870efb7d5312adbe862833717c3b7a0bf7cd4480e0ae233b54db1ec3ef"), looks := false }, kinds := [], alts := [], laidByText := true, laidKinds := [.data, .data, .data, .data, .pinned], laidTests := true, laidLooks := .later }
def IplReclaimsCardSaid : Prop := Claim7.holds Tryz.pinned (.plain (OpenSpec.ofChange iplReclaimsSpec)) iplReclaimsCard

/-- THE TIED CARD OF 'midrangelaw11.IplOnce'. -/
def iplOnceCard : Claim7 := { stood := { row := iplOnceRow, standIns := [], harness := (true, "f78d70870efb7d5312adbe862833717c3b7a0bf7cd4480e0ae233b54db1ec3ef"), looks := false }, kinds := [], alts := [], laidByText := true, laidKinds := [.data, .data, .data, .data, .pinned], laidTests := true, laidLooks := .later }
def IplOnceCardSaid : Prop := Claim7.holds Tryz.pinned (.plain (OpenSpec.ofChange iplOnceSpec)) iplOnceCard

/-- THE TIED CARD OF 'midrangelaw11.IplOwns'. -/
def iplOwnsCard : Claim7 := { stood := { row := iplOwnsRow, standIns := [], harness := (true, "f78d70870efb7d5312adbe862833717c3b7a0bf7cd4480e0ae233b54db1ec3ef"), looks := false }, kinds := [], alts := [], laidByText := true, laidKinds := [.data, .data, .data, .data, .pinned], laidTests := true, laidLooks := .later }
def IplOwnsCardSaid : Prop := Claim7.holds Tryz.pinned (.plain (OpenSpec.ofChange iplOwnsSpec)) iplOwnsCard

/-- THE TIED CARD OF 'midrangelaw11.IplFinds'. -/
def iplFindsCard : Claim7 := { stood := { row := iplFindsRow, standIns := [], harness := (true, "f78d70870efb7d5312adbe862833717c3b7a0bf7cd4480e0ae233b54db1ec3ef"), looks := false }, kinds := [], alts := [], laidByText := true, laidKinds := [.data, .data, .data, .data, .pinned], laidTests := true, laidLooks := .later }
def IplFindsCardSaid : Prop := Claim7.holds Tryz.pinned (.plain (OpenSpec.ofChange iplFindsSpec)) iplFindsCard

/-- THE SECOND FORM's CARD OF 'midrangelaw11.IplReads'. -/
def iplReadsUptoCard : Claim7 := { stood := { row := iplReadsUptoRow, standIns := [], harness := (true, "f78d70870efb7d5312adbe862833717c3b7a0bf7cd4480e0ae233b54db1ec3ef"), looks := false }, kinds := [], alts := [], laidByText := true, laidKinds := [.data, .pinned], laidTests := true, laidLooks := .later }
def IplReadsUptoCardSaid : Prop := Claim7.holds Tryz.pinned (.plain (OpenSpec.upto iplReadsSpec)) iplReadsUptoCard

/-- THE SECOND FORM's CARD OF 'midrangelaw11.IplChecks'. -/
def iplChecksUptoCard : Claim7 := { stood := { row := iplChecksUptoRow, standIns := [], harness := (true, "f78d70870efb7d5312adbe862833717c3b7a0bf7cd4480e0ae233b54db1ec3ef"), looks := false }, kinds := [], alts := [], laidByText := true, laidKinds := [.data, .pinned], laidTests := true, laidLooks := .later }
def IplChecksUptoCardSaid : Prop := Claim7.holds Tryz.pinned (.plain (OpenSpec.upto iplChecksSpec)) iplChecksUptoCard

/-- THE SECOND FORM's CARD OF 'midrangelaw11.IplLoses'. -/
def iplLosesUptoCard : Claim7 := { stood := { row := iplLosesUptoRow, standIns := [], harness := (true, "f78d70870efb7d5312adbe862833717c3b7a0bf7cd4480e0ae233b54db1ec3ef"), looks := false }, kinds := [], alts := [], laidByText := true, laidKinds := [.data, .pinned], laidTests := true, laidLooks := .later }
def IplLosesUptoCardSaid : Prop := Claim7.holds Tryz.pinned (.plain (OpenSpec.upto iplLosesSpec)) iplLosesUptoCard

/-- THE SECOND FORM's CARD OF 'midrangelaw11.IplRuns'. -/
def iplRunsUptoCard : Claim7 := { stood := { row := iplRunsUptoRow, standIns := [], harness := (true, "f78d70870efb7d5312adbe862833717c3b7a0bf7cd4480e0ae233b54db1ec3ef"), looks := false }, kinds := [], alts := [], laidByText := true, laidKinds := [.data, .pinned], laidTests := true, laidLooks := .later }
def IplRunsUptoCardSaid : Prop := Claim7.holds Tryz.pinned (.plain (OpenSpec.upto iplRunsSpec)) iplRunsUptoCard

/-- THE SECOND FORM's CARD OF 'midrangelaw11.IplWhole'. -/
def iplWholeUptoCard : Claim7 := { stood := { row := iplWholeUptoRow, standIns := [], harness := (true, "f78d70870efb7d5312adbe862833717c3b7a0bf7cd4480e0ae233b54db1ec3ef"), looks := false }, kinds := [], alts := [], laidByText := true, laidKinds := [.data, .pinned], laidTests := true, laidLooks := .later }
def IplWholeUptoCardSaid : Prop := Claim7.holds Tryz.pinned (.plain (OpenSpec.upto iplWholeSpec)) iplWholeUptoCard

/-- THE SECOND FORM's CARD OF 'midrangelaw11.IplHeaders'. -/
def iplHeadersUptoCard : Claim7 := { stood := { row := iplHeadersUptoRow, standIns := [], harness := (true, "f78d70870efb7d5312adbe862833717c3b7a0bf7cd4480e0ae233b54db1ec3ef"), looks := false }, kinds := [], alts := [], laidByText := true, laidKinds := [.data, .pinned], laidTests := true, laidLooks := .later }
def IplHeadersUptoCardSaid : Prop := Claim7.holds Tryz.pinned (.plain (OpenSpec.upto iplHeadersSpec)) iplHeadersUptoCard

/-- THE SECOND FORM's CARD OF 'midrangelaw11.IplAsks'. -/
def iplAsksUptoCard : Claim7 := { stood := { row := iplAsksUptoRow, standIns := [], harness := (true, "f78d70870efb7d5312adbe862833717c3b7a0bf7cd4480e0ae233b54db1ec3ef"), looks := false }, kinds := [], alts := [], laidByText := true, laidKinds := [.data, .pinned], laidTests := true, laidLooks := .later }
def IplAsksUptoCardSaid : Prop := Claim7.holds Tryz.pinned (.plain (OpenSpec.upto iplAsksSpec)) iplAsksUptoCard

/-- THE SECOND FORM's CARD OF 'midrangelaw11.IplObjects'. -/
def iplObjectsUptoCard : Claim7 := { stood := { row := iplObjectsUptoRow, standIns := [], harness := (true, "f78d70870efb7d5312adbe862833717c3b7a0bf7cd4480e0ae233b54db1ec3ef"), looks := false }, kinds := [], alts := [], laidByText := true, laidKinds := [.data, .pinned], laidTests := true, laidLooks := .later }
def IplObjectsUptoCardSaid : Prop := Claim7.holds Tryz.pinned (.plain (OpenSpec.upto iplObjectsSpec)) iplObjectsUptoCard

/-- THE SECOND FORM's CARD OF 'midrangelaw11.IplReclaims'. -/
def iplReclaimsUptoCard : Claim7 := { stood := { row := iplReclaimsUptoRow, standIns := [], harness := (true, "f78d70870efb7d5312adbe862833717c3b7a0bf7cd4480e0ae233b54db1ec3ef"), looks := false }, kinds := [], alts := [], laidByText := true, laidKinds := [.data, .data, .data, .data, .pinned], laidTests := true, laidLooks := .later }
def IplReclaimsUptoCardSaid : Prop := Claim7.holds Tryz.pinned (.plain (OpenSpec.upto iplReclaimsSpec)) iplReclaimsUptoCard

/-- THE SECOND FORM's CARD OF 'midrangelaw11.IplOnce'. -/
def iplOnceUptoCard : Claim7 := { stood := { row := iplOnceUptoRow, standIns := [], harness := (true, "f78d70870efb7d5312adbe862833717c3b7a0bf7cd4480e0ae233b54db1ec3ef"), looks := false }, kinds := [], alts := [], laidByText := true, laidKinds := [.data, .data, .data, .data, .pinned], laidTests := true, laidLooks := .later }
def IplOnceUptoCardSaid : Prop := Claim7.holds Tryz.pinned (.plain (OpenSpec.upto iplOnceSpec)) iplOnceUptoCard

/-- THE SECOND FORM's CARD OF 'midrangelaw11.IplOwns'. -/
def iplOwnsUptoCard : Claim7 := { stood := { row := iplOwnsUptoRow, standIns := [], harness := (true, "f78d70870efb7d5312adbe862833717c3b7a0bf7cd4480e0ae233b54db1ec3ef"), looks := false }, kinds := [], alts := [], laidByText := true, laidKinds := [.data, .data, .data, .data, .pinned], laidTests := true, laidLooks := .later }
def IplOwnsUptoCardSaid : Prop := Claim7.holds Tryz.pinned (.plain (OpenSpec.upto iplOwnsSpec)) iplOwnsUptoCard

/-- THE SECOND FORM's CARD OF 'midrangelaw11.IplFinds'. -/
def iplFindsUptoCard : Claim7 := { stood := { row := iplFindsUptoRow, standIns := [], harness := (true, "f78d70870efb7d5312adbe862833717c3b7a0bf7cd4480e0ae233b54db1ec3ef"), looks := false }, kinds := [], alts := [], laidByText := true, laidKinds := [.data, .data, .data, .data, .pinned], laidTests := true, laidLooks := .later }
def IplFindsUptoCardSaid : Prop := Claim7.holds Tryz.pinned (.plain (OpenSpec.upto iplFindsSpec)) iplFindsUptoCard
end Rows
end Go.Proofs.YtiddpfhpmodfbaaGreatDoor
