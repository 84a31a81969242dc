/-
  DERIVED. GIVEN WITH THE SEED: THE CARDS: each row of YtgdibedgjndcoaaGreatDoorRows.lean that lists a variable, with what it lists TIED to the program's text (the seventh form; the later family's looks); each row that meets fmt, with fmt's text TOLD by the authors' own Lean function (tested against real Go, not proved from fmt's source: count such statements apart). THE CARD IS WHAT COUNTS. Prove the row's statement (the work); the ties are given (YtgdibedgjndcoaaGreatDoorTie.lean); close each card by the builder's one call (the guide's Derived/Test/ToyasCard.lean, 'card_holds'). Laid BY PROGRAM, IN A SANDBOX (cutbox-door.mjs). By AI agents, Wed Nov 11 2026. No macro, syntax, notation, axiom, sorry.
-/
import Derived.Test.YtgdibedgjndcoaaGreatDoorRows
import GoSem.ClaimSeven
namespace Go.Proofs.YtgdibedgjndcoaaGreatDoor
namespace Rows

/-- THE TIED CARD OF 'gussetlaw23.PointsCut'. -/
def pointsCutCard : Claim7 := { stood := { row := pointsCutRow, standIns := [], harness := (true, "9389bb22665f6029b7a05bdca96a87f43265fd59c508eced64f5b25694fafd2c"), looks := false }, kinds := [], alts := [], laidByText := true, laidKinds := [.data, .data, .data], laidTests := true, laidLooks := .later }
def PointsCutCardSaid : Prop := Claim7.holds Tryz.pinned (.plain (OpenSpec.ofChange pointsCutSpec)) pointsCutCard

/-- THE TIED CARD OF 'gussetlaw03.FracsLists'. -/
def fracsListsCard : Claim7 := { stood := { row := fracsListsRow, standIns := [], harness := (true, "9389bb22665f6029b7a05bdca96a87f43265fd59c508eced64f5b25694fafd2c"), looks := false }, kinds := [], alts := [], laidByText := true, laidKinds := [.data, .data, .data], laidTests := true, laidLooks := .later }
def FracsListsCardSaid : Prop := Claim7.holds Tryz.pinned (.plain (OpenSpec.ofChange fracsListsSpec)) fracsListsCard

/-- THE TIED CARD OF 'gussetlaw03.FracsKnown'. -/
def fracsKnownCard : Claim7 := { stood := { row := fracsKnownRow, standIns := [], harness := (true, "9389bb22665f6029b7a05bdca96a87f43265fd59c508eced64f5b25694fafd2c"), looks := false }, kinds := [], alts := [], laidByText := true, laidKinds := [.data, .data, .data], laidTests := true, laidLooks := .later }
def FracsKnownCardSaid : Prop := Claim7.holds Tryz.pinned (.plain (OpenSpec.ofChange fracsKnownSpec)) fracsKnownCard

/-- THE TIED CARD OF 'gussetlaw04.DecimalsTexts'. -/
def decimalsTextsCard : Claim7 := { stood := { row := decimalsTextsRow, standIns := [], harness := (true, "9389bb22665f6029b7a05bdca96a87f43265fd59c508eced64f5b25694fafd2c"), looks := false }, kinds := [], alts := [], laidByText := true, laidKinds := [.data, .data, .data], laidTests := true, laidLooks := .later }
def DecimalsTextsCardSaid : Prop := Claim7.holds Tryz.pinned (.plain (OpenSpec.ofChange decimalsTextsSpec)) decimalsTextsCard

/-- THE TIED CARD OF 'gussetlaw04.DecimalsReads'. -/
def decimalsReadsCard : Claim7 := { stood := { row := decimalsReadsRow, standIns := [], harness := (true, "9389bb22665f6029b7a05bdca96a87f43265fd59c508eced64f5b25694fafd2c"), looks := false }, kinds := [], alts := [], laidByText := true, laidKinds := [.data, .data, .data], laidTests := true, laidLooks := .later }
def DecimalsReadsCardSaid : Prop := Claim7.holds Tryz.pinned (.plain (OpenSpec.ofChange decimalsReadsSpec)) decimalsReadsCard

/-- THE TIED CARD OF 'gussetlaw04.DecimalsCycle'. -/
def decimalsCycleCard : Claim7 := { stood := { row := decimalsCycleRow, standIns := [], harness := (true, "9389bb22665f6029b7a05bdca96a87f43265fd59c508eced64f5b25694fafd2c"), looks := false }, kinds := [], alts := [], laidByText := true, laidKinds := [.data, .data, .data], laidTests := true, laidLooks := .later }
def DecimalsCycleCardSaid : Prop := Claim7.holds Tryz.pinned (.plain (OpenSpec.ofChange decimalsCycleSpec)) decimalsCycleCard

/-- THE TIED CARD OF 'gussetlaw04.DecimalsBack'. -/
def decimalsBackCard : Claim7 := { stood := { row := decimalsBackRow, standIns := [], harness := (true, "9389bb22665f6029b7a05bdca96a87f43265fd59c508eced64f5b25694fafd2c"), looks := false }, kinds := [], alts := [], laidByText := true, laidKinds := [.data, .data, .data], laidTests := true, laidLooks := .later }
def DecimalsBackCardSaid : Prop := Claim7.holds Tryz.pinned (.plain (OpenSpec.ofChange decimalsBackSpec)) decimalsBackCard

/-- THE TIED CARD OF 'gussetlaw04.DecimalsTurned'. -/
def decimalsTurnedCard : Claim7 := { stood := { row := decimalsTurnedRow, standIns := [], harness := (true, "9389bb22665f6029b7a05bdca96a87f43265fd59c508eced64f5b25694fafd2c"), looks := false }, kinds := [], alts := [], laidByText := true, laidKinds := [.data, .data, .data], laidTests := true, laidLooks := .later }
def DecimalsTurnedCardSaid : Prop := Claim7.holds Tryz.pinned (.plain (OpenSpec.ofChange decimalsTurnedSpec)) decimalsTurnedCard

/-- THE TIED CARD OF 'gussetlaw04.DecimalsRounds'. -/
def decimalsRoundsCard : Claim7 := { stood := { row := decimalsRoundsRow, standIns := [], harness := (true, "9389bb22665f6029b7a05bdca96a87f43265fd59c508eced64f5b25694fafd2c"), looks := false }, kinds := [], alts := [], laidByText := true, laidKinds := [.data, .data, .data], laidTests := true, laidLooks := .later }
def DecimalsRoundsCardSaid : Prop := Claim7.holds Tryz.pinned (.plain (OpenSpec.ofChange decimalsRoundsSpec)) decimalsRoundsCard

/-- THE TIED CARD OF 'gussetlaw04.DecimalsBetween'. -/
def decimalsBetweenCard : Claim7 := { stood := { row := decimalsBetweenRow, standIns := [], harness := (true, "9389bb22665f6029b7a05bdca96a87f43265fd59c508eced64f5b25694fafd2c"), looks := false }, kinds := [], alts := [], laidByText := true, laidKinds := [.data, .data, .data], laidTests := true, laidLooks := .later }
def DecimalsBetweenCardSaid : Prop := Claim7.holds Tryz.pinned (.plain (OpenSpec.ofChange decimalsBetweenSpec)) decimalsBetweenCard

/-- THE TIED CARD OF 'gussetlaw04.DecimalsKnown'. -/
def decimalsKnownCard : Claim7 := { stood := { row := decimalsKnownRow, standIns := [], harness := (true, "9389bb22665f6029b7a05bdca96a87f43265fd59c508eced64f5b25694fafd2c"), looks := false }, kinds := [], alts := [], laidByText := true, laidKinds := [.data, .data, .data], laidTests := true, laidLooks := .later }
def DecimalsKnownCardSaid : Prop := Claim7.holds Tryz.pinned (.plain (OpenSpec.ofChange decimalsKnownSpec)) decimalsKnownCard

/-- THE SECOND FORM's CARD OF 'gussetlaw23.PointsCut'. -/
def pointsCutUptoCard : Claim7 := { stood := { row := pointsCutUptoRow, standIns := [], harness := (true, "9389bb22665f6029b7a05bdca96a87f43265fd59c508eced64f5b25694fafd2c"), looks := false }, kinds := [], alts := [], laidByText := true, laidKinds := [.data, .data, .data], laidTests := true, laidLooks := .later }
def PointsCutUptoCardSaid : Prop := Claim7.holds Tryz.pinned (.plain (OpenSpec.upto pointsCutSpec)) pointsCutUptoCard

/-- THE SECOND FORM's CARD OF 'gussetlaw03.FracsLists'. -/
def fracsListsUptoCard : Claim7 := { stood := { row := fracsListsUptoRow, standIns := [], harness := (true, "9389bb22665f6029b7a05bdca96a87f43265fd59c508eced64f5b25694fafd2c"), looks := false }, kinds := [], alts := [], laidByText := true, laidKinds := [.data, .data, .data], laidTests := true, laidLooks := .later }
def FracsListsUptoCardSaid : Prop := Claim7.holds Tryz.pinned (.plain (OpenSpec.upto fracsListsSpec)) fracsListsUptoCard

/-- THE SECOND FORM's CARD OF 'gussetlaw03.FracsKnown'. -/
def fracsKnownUptoCard : Claim7 := { stood := { row := fracsKnownUptoRow, standIns := [], harness := (true, "9389bb22665f6029b7a05bdca96a87f43265fd59c508eced64f5b25694fafd2c"), looks := false }, kinds := [], alts := [], laidByText := true, laidKinds := [.data, .data, .data], laidTests := true, laidLooks := .later }
def FracsKnownUptoCardSaid : Prop := Claim7.holds Tryz.pinned (.plain (OpenSpec.upto fracsKnownSpec)) fracsKnownUptoCard

/-- THE SECOND FORM's CARD OF 'gussetlaw04.DecimalsTexts'. -/
def decimalsTextsUptoCard : Claim7 := { stood := { row := decimalsTextsUptoRow, standIns := [], harness := (true, "9389bb22665f6029b7a05bdca96a87f43265fd59c508eced64f5b25694fafd2c"), looks := false }, kinds := [], alts := [], laidByText := true, laidKinds := [.data, .data, .data], laidTests := true, laidLooks := .later }
def DecimalsTextsUptoCardSaid : Prop := Claim7.holds Tryz.pinned (.plain (OpenSpec.upto decimalsTextsSpec)) decimalsTextsUptoCard

/-- THE SECOND FORM's CARD OF 'gussetlaw04.DecimalsReads'. -/
def decimalsReadsUptoCard : Claim7 := { stood := { row := decimalsReadsUptoRow, standIns := [], harness := (true, "9389bb22665f6029b7a05bdca96a87f43265fd59c508eced64f5b25694fafd2c"), looks := false }, kinds := [], alts := [], laidByText := true, laidKinds := [.data, .data, .data], laidTests := true, laidLooks := .later }
def DecimalsReadsUptoCardSaid : Prop := Claim7.holds Tryz.pinned (.plain (OpenSpec.upto decimalsReadsSpec)) decimalsReadsUptoCard

/-- THE SECOND FORM's CARD OF 'gussetlaw04.DecimalsCycle'. -/
def decimalsCycleUptoCard : Claim7 := { stood := { row := decimalsCycleUptoRow, standIns := [], harness := (true, "9389bb22665f6029b7a05bdca96a87f43265fd59c508eced64f5b25694fafd2c"), looks := false }, kinds := [], alts := [], laidByText := true, laidKinds := [.data, .data, .data], laidTests := true, laidLooks := .later }
def DecimalsCycleUptoCardSaid : Prop := Claim7.holds Tryz.pinned (.plain (OpenSpec.upto decimalsCycleSpec)) decimalsCycleUptoCard

/-- THE SECOND FORM's CARD OF 'gussetlaw04.DecimalsBack'. -/
def decimalsBackUptoCard : Claim7 := { stood := { row := decimalsBackUptoRow, standIns := [], harness := (true, "9389bb22665f6029b7a05bdca96a87f43265fd59c508eced64f5b25694fafd2c"), looks := false }, kinds := [], alts := [], laidByText := true, laidKinds := [.data, .data, .data], laidTests := true, laidLooks := .later }
def DecimalsBackUptoCardSaid : Prop := Claim7.holds Tryz.pinned (.plain (OpenSpec.upto decimalsBackSpec)) decimalsBackUptoCard

/-- THE SECOND FORM's CARD OF 'gussetlaw04.DecimalsTurned'. -/
def decimalsTurnedUptoCard : Claim7 := { stood := { row := decimalsTurnedUptoRow, standIns := [], harness := (true, "9389bb22665f6029b7a05bdca96a87f43265fd59c508eced64f5b25694fafd2c"), looks := false }, kinds := [], alts := [], laidByText := true, laidKinds := [.data, .data, .data], laidTests := true, laidLooks := .later }
def DecimalsTurnedUptoCardSaid : Prop := Claim7.holds Tryz.pinned (.plain (OpenSpec.upto decimalsTurnedSpec)) decimalsTurnedUptoCard

/-- THE SECOND FORM's CARD OF 'gussetlaw04.DecimalsRounds'. -/
def decimalsRoundsUptoCard : Claim7 := { stood := { row := decimalsRoundsUptoRow, standIns := [], harness := (true, "9389bb22665f6029b7a05bdca96a87f43265fd59c508eced64f5b25694fafd2c"), looks := false }, kinds := [], alts := [], laidByText := true, laidKinds := [.data, .data, .data], laidTests := true, laidLooks := .later }
def DecimalsRoundsUptoCardSaid : Prop := Claim7.holds Tryz.pinned (.plain (OpenSpec.upto decimalsRoundsSpec)) decimalsRoundsUptoCard

/-- THE SECOND FORM's CARD OF 'gussetlaw04.DecimalsBetween'. -/
def decimalsBetweenUptoCard : Claim7 := { stood := { row := decimalsBetweenUptoRow, standIns := [], harness := (true, "9389bb22665f6029b7a05bdca96a87f43265fd59c508eced64f5b25694fafd2c"), looks := false }, kinds := [], alts := [], laidByText := true, laidKinds := [.data, .data, .data], laidTests := true, laidLooks := .later }
def DecimalsBetweenUptoCardSaid : Prop := Claim7.holds Tryz.pinned (.plain (OpenSpec.upto decimalsBetweenSpec)) decimalsBetweenUptoCard

/-- THE SECOND FORM's CARD OF 'gussetlaw04.DecimalsKnown'. -/
def decimalsKnownUptoCard : Claim7 := { stood := { row := decimalsKnownUptoRow, standIns := [], harness := (true, "9389bb22665f6029b7a05bdca96a87f43265fd59c508eced64f5b25694fafd2c"), looks := false }, kinds := [], alts := [], laidByText := true, laidKinds := [.data, .data, .data], laidTests := true, laidLooks := .later }
def DecimalsKnownUptoCardSaid : Prop := Claim7.holds Tryz.pinned (.plain (OpenSpec.upto decimalsKnownSpec)) decimalsKnownUptoCard
end Rows
end Go.Proofs.YtgdibedgjndcoaaGreatDoor
