/-
  DERIVED. GIVEN WITH THE SEED: THE CARDS: each row of YtdnfnjaccbgplaaDoorRows.lean that lists a variable, with what it lists TIED to the program's text (the seventh form; the later family's looks); each row that meets fmt, with fmt's text TOLD by the authors' own Lean function (tested against real Go, not proved from fmt's source: count such statements apart). THE CARD IS WHAT COUNTS. Prove the row's statement (the work); the ties are given (YtdnfnjaccbgplaaDoorTie.lean); close each card by the builder's one call (the guide's Derived/Test/ToyasCard.lean, 'card_holds'). Laid BY PROGRAM, IN A SANDBOX (cutbox-door.mjs). By AI agents, Wed Nov 11 2026. No macro, syntax, notation, axiom, sorry.
-/
import Derived.Test.YtdnfnjaccbgplaaDoorRows
import GoSem.ClaimSeven
namespace Go.Proofs.YtdnfnjaccbgplaaDoor
namespace Rows

/-- THE TIED CARD OF 'midrangelaw32.JournalEntries'. -/
def journalEntriesCard : Claim7 := { stood := { row := journalEntriesRow, standIns := [], harness := (true, "75a139bf216c1e2c68b1da948e4aa467da46decca2a769ec7ac4395a111758ff"), looks := false }, kinds := [], alts := [], laidByText := true, laidKinds := [.data, .pinned], laidTests := true, laidLooks := .later }
def JournalEntriesCardSaid : Prop := Claim7.holds Tryd.pinned (.plain (OpenSpec.ofChange journalEntriesSpec)) journalEntriesCard

/-- THE TIED CARD OF 'midrangelaw32.JournalReads'. -/
def journalReadsCard : Claim7 := { stood := { row := journalReadsRow, standIns := [], harness := (true, "75a139bf216c1e2c68b1da948e4aa467da46decca2a769ec7ac4395a111758ff"), looks := false }, kinds := [], alts := [], laidByText := true, laidKinds := [.data, .pinned], laidTests := true, laidLooks := .later }
def JournalReadsCardSaid : Prop := Claim7.holds Tryd.pinned (.plain (OpenSpec.ofChange journalReadsSpec)) journalReadsCard

/-- THE TIED CARD OF 'midrangelaw32.JournalChecks'. -/
def journalChecksCard : Claim7 := { stood := { row := journalChecksRow, standIns := [], harness := (true, "75a139bf216c1e2c68b1da948e4aa467da46decca2a769ec7ac4395a111758ff"), looks := false }, kinds := [], alts := [], laidByText := true, laidKinds := [.data, .pinned], laidTests := true, laidLooks := .later }
def JournalChecksCardSaid : Prop := Claim7.holds Tryd.pinned (.plain (OpenSpec.ofChange journalChecksSpec)) journalChecksCard

/-- THE TIED CARD OF 'midrangelaw32.JournalAppends'. -/
def journalAppendsCard : Claim7 := { stood := { row := journalAppendsRow, standIns := [], harness := (true, "75a139bf216c1e2c68b1da948e4aa467da46decca2a769ec7ac4395a111758ff"), looks := false }, kinds := [], alts := [], laidByText := true, laidKinds := [.data, .pinned], laidTests := true, laidLooks := .later }
def JournalAppendsCardSaid : Prop := Claim7.holds Tryd.pinned (.plain (OpenSpec.ofChange journalAppendsSpec)) journalAppendsCard

/-- THE TIED CARD OF 'midrangelaw32.JournalFails'. -/
def journalFailsCard : Claim7 := { stood := { row := journalFailsRow, standIns := [], harness := (true, "75a139bf216c1e2c68b1da948e4aa467da46decca2a769ec7ac4395a111758ff"), looks := false }, kinds := [], alts := [], laidByText := true, laidKinds := [.data, .pinned], laidTests := true, laidLooks := .later }
def JournalFailsCardSaid : Prop := Claim7.holds Tryd.pinned (.plain (OpenSpec.ofChange journalFailsSpec)) journalFailsCard

/-- THE TIED CARD OF 'midrangelaw32.JournalSurvives'. -/
def journalSurvivesCard : Claim7 := { stood := { row := journalSurvivesRow, standIns := [], harness := (true, "75a139bf216c1e2c68b1da948e4aa467da46decca2a769ec7ac4395a111758ff"), looks := false }, kinds := [], alts := [], laidByText := true, laidKinds := [.data, .pinned], laidTests := true, laidLooks := .later }
def JournalSurvivesCardSaid : Prop := Claim7.holds Tryd.pinned (.plain (OpenSpec.ofChange journalSurvivesSpec)) journalSurvivesCard

/-- THE TIED CARD OF 'midrangelaw32.JournalHonest'. -/
def journalHonestCard : Claim7 := { stood := { row := journalHonestRow, standIns := [], harness := (true, "75a139bf216c1e2c68b1da948e4aa467da46decca2a769ec7ac4395a111758ff"), looks := false }, kinds := [], alts := [], laidByText := true, laidKinds := [.data, .pinned], laidTests := true, laidLooks := .later }
def JournalHonestCardSaid : Prop := Claim7.holds Tryd.pinned (.plain (OpenSpec.ofChange journalHonestSpec)) journalHonestCard

/-- THE TIED CARD OF 'midrangelaw32.JournalAsks'. -/
def journalAsksCard : Claim7 := { stood := { row := journalAsksRow, standIns := [], harness := (true, "75a139bf216c1e2c68b1da948e4aa467da46decca2a769ec7ac4395a111758ff"), looks := false }, kinds := [], alts := [], laidByText := true, laidKinds := [.data, .pinned], laidTests := true, laidLooks := .later }
def JournalAsksCardSaid : Prop := Claim7.holds Tryd.pinned (.plain (OpenSpec.ofChange journalAsksSpec)) journalAsksCard

/-- THE TIED CARD OF 'midrangelaw32.JournalReceivers'. -/
def journalReceiversCard : Claim7 := { stood := { row := journalReceiversRow, standIns := [], harness := (true, "75a139bf216c1e2c68b1da948e4aa467da46decca2a769ec7ac4395a111758ff"), looks := false }, kinds := [], alts := [], laidByText := true, laidKinds := [.data, .pinned], laidTests := true, laidLooks := .later }
def JournalReceiversCardSaid : Prop := Claim7.holds Tryd.pinned (.plain (OpenSpec.ofChange journalReceiversSpec)) journalReceiversCard

/-- THE TIED CARD OF 'midrangelaw32.JournalBack'. -/
def journalBackCard : Claim7 := { stood := { row := journalBackRow, standIns := [], harness := (true, "75a139bf216c1e2c68b1da948e4aa467da46decca2a769ec7ac4395a111758ff"), looks := false }, kinds := [], alts := [], laidByText := true, laidKinds := [.data, .pinned], laidTests := true, laidLooks := .later }
def JournalBackCardSaid : Prop := Claim7.holds Tryd.pinned (.plain (OpenSpec.ofChange journalBackSpec)) journalBackCard

/-- THE SECOND FORM's CARD OF 'midrangelaw32.JournalEntries'. -/
def journalEntriesUptoCard : Claim7 := { stood := { row := journalEntriesUptoRow, standIns := [], harness := (true, "75a139bf216c1e2c68b1da948e4aa467da46decca2a769ec7ac4395a111758ff"), looks := false }, kinds := [], alts := [], laidByText := true, laidKinds := [.data, .pinned], laidTests := true, laidLooks := .later }
def JournalEntriesUptoCardSaid : Prop := Claim7.holds Tryd.pinned (.plain (OpenSpec.upto journalEntriesSpec)) journalEntriesUptoCard

/-- THE SECOND FORM's CARD OF 'midrangelaw32.JournalReads'. -/
def journalReadsUptoCard : Claim7 := { stood := { row := journalReadsUptoRow, standIns := [], harness := (true, "75a139bf216c1e2c68b1da948e4aa467da46decca2a769ec7ac4395a111758ff"), looks := false }, kinds := [], alts := [], laidByText := true, laidKinds := [.data, .pinned], laidTests := true, laidLooks := .later }
def JournalReadsUptoCardSaid : Prop := Claim7.holds Tryd.pinned (.plain (OpenSpec.upto journalReadsSpec)) journalReadsUptoCard

/-- THE SECOND FORM's CARD OF 'midrangelaw32.JournalChecks'. -/
def journalChecksUptoCard : Claim7 := { stood := { row := journalChecksUptoRow, standIns := [], harness := (true, "75a139bf216c1e2c68b1da948e4aa467da46decca2a769ec7ac4395a111758ff"), looks := false }, kinds := [], alts := [], laidByText := true, laidKinds := [.data, .pinned], laidTests := true, laidLooks := .later }
def JournalChecksUptoCardSaid : Prop := Claim7.holds Tryd.pinned (.plain (OpenSpec.upto journalChecksSpec)) journalChecksUptoCard

/-- THE SECOND FORM's CARD OF 'midrangelaw32.JournalAppends'. -/
def journalAppendsUptoCard : Claim7 := { stood := { row := journalAppendsUptoRow, standIns := [], harness := (true, "75a139bf216c1e2c68b1da948e4aa467da46decca2a769ec7ac4395a111758ff"), looks := false }, kinds := [], alts := [], laidByText := true, laidKinds := [.data, .pinned], laidTests := true, laidLooks := .later }
def JournalAppendsUptoCardSaid : Prop := Claim7.holds Tryd.pinned (.plain (OpenSpec.upto journalAppendsSpec)) journalAppendsUptoCard

/-- THE SECOND FORM's CARD OF 'midrangelaw32.JournalFails'. -/
def journalFailsUptoCard : Claim7 := { stood := { row := journalFailsUptoRow, standIns := [], harness := (true, "75a139bf216c1e2c68b1da948e4aa467da46decca2a769ec7ac4395a111758ff"), looks := false }, kinds := [], alts := [], laidByText := true, laidKinds := [.data, .pinned], laidTests := true, laidLooks := .later }
def JournalFailsUptoCardSaid : Prop := Claim7.holds Tryd.pinned (.plain (OpenSpec.upto journalFailsSpec)) journalFailsUptoCard

/-- THE SECOND FORM's CARD OF 'midrangelaw32.JournalSurvives'. -/
def journalSurvivesUptoCard : Claim7 := { stood := { row := journalSurvivesUptoRow, standIns := [], harness := (true, "75a139bf216c1e2c68b1da948e4aa467da46decca2a769ec7ac4395a111758ff"), looks := false }, kinds := [], alts := [], laidByText := true, laidKinds := [.data, .pinned], laidTests := true, laidLooks := .later }
def JournalSurvivesUptoCardSaid : Prop := Claim7.holds Tryd.pinned (.plain (OpenSpec.upto journalSurvivesSpec)) journalSurvivesUptoCard

/-- THE SECOND FORM's CARD OF 'midrangelaw32.JournalHonest'. -/
def journalHonestUptoCard : Claim7 := { stood := { row := journalHonestUptoRow, standIns := [], harness := (true, "75a139bf216c1e2c68b1da948e4aa467da46decca2a769ec7ac4395a111758ff"), looks := false }, kinds := [], alts := [], laidByText := true, laidKinds := [.data, .pinned], laidTests := true, laidLooks := .later }
def JournalHonestUptoCardSaid : Prop := Claim7.holds Tryd.pinned (.plain (OpenSpec.upto journalHonestSpec)) journalHonestUptoCard

/-- THE SECOND FORM's CARD OF 'midrangelaw32.JournalAsks'. -/
def journalAsksUptoCard : Claim7 := { stood := { row := journalAsksUptoRow, standIns := [], harness := (true, "75a139bf216c1e2c68b1da948e4aa467da46decca2a769ec7ac4395a111758ff"), looks := false }, kinds := [], alts := [], laidByText := true, laidKinds := [.data, .pinned], laidTests := true, laidLooks := .later }
def JournalAsksUptoCardSaid : Prop := Claim7.holds Tryd.pinned (.plain (OpenSpec.upto journalAsksSpec)) journalAsksUptoCard

/-- THE SECOND FORM's CARD OF 'midrangelaw32.JournalReceivers'. -/
def journalReceiversUptoCard : Claim7 := { stood := { row := journalReceiversUptoRow, standIns := [], harness := (true, "75a139bf216c1e2c68b1da948e4aa467da46decca2a769ec7ac4395a111758ff"), looks := false }, kinds := [], alts := [], laidByText := true, laidKinds := [.data, .pinned], laidTests := true, laidLooks := .later }
def JournalReceiversUptoCardSaid : Prop := Claim7.holds Tryd.pinned (.plain (OpenSpec.upto journalReceiversSpec)) journalReceiversUptoCard

/-- THE SECOND FORM's CARD OF 'midrangelaw32.JournalBack'. -/
def journalBackUptoCard : Claim7 := { stood := { row := journalBackUptoRow, standIns := [], harness := (true, "75a139bf216c1e2c68b1da948e4aa467da46decca2a769ec7ac4395a111758ff"), looks := false }, kinds := [], alts := [], laidByText := true, laidKinds := [.data, .pinned], laidTests := true, laidLooks := .later }
def JournalBackUptoCardSaid : Prop := Claim7.holds Tryd.pinned (.plain (OpenSpec.upto journalBackSpec)) journalBackUptoCard
end Rows
end Go.Proofs.YtdnfnjaccbgplaaDoor
