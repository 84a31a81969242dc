/-
  DERIVED. GIVEN WITH THE SEED: THE CARDS: each row of YtaflakcemiilaaaGreatDoorRows.lean that lists a variable, with what it lists TIED to the program's text (the seventh form; the later family's looks); each row that meets fmt, with fmt's text TOLD by the authors' own Lean function (tested against real Go, not proved from fmt's source: count such statements apart). THE CARD IS WHAT COUNTS. Prove the row's statement (the work); the ties are given (YtaflakcemiilaaaGreatDoorTie.lean); close each card by the builder's one call (the guide's Derived/Test/ToyasCard.lean, 'card_holds'). Laid BY PROGRAM, IN A SANDBOX (cutbox-door.mjs). By AI agents, Wed Nov 11 2026. No macro, syntax, notation, axiom, sorry.
-/
import Derived.Test.YtaflakcemiilaaaGreatDoorRows
import GoSem.ClaimSeven
namespace Go.Proofs.YtaflakcemiilaaaGreatDoor
namespace Rows

/-- THE TIED CARD OF 'gussetlaw23.PointsCut'. -/
def pointsCutCard : Claim7 := { stood := { row := pointsCutRow, standIns := [], harness := (true, "eb200b34f50dd3952de1662d94e6dcdd3699821c4ce947b73a861d35f98d002f"), looks := false }, kinds := [], alts := [], laidByText := true, laidKinds := [.data, .data, .data], laidTests := true, laidLooks := .later }
def PointsCutCardSaid : Prop := Claim7.holds Tryz.pinned (.plain (OpenSpec.ofChange pointsCutSpec)) pointsCutCard

/-- THE TIED CARD OF 'gussetlaw05.RootsBoth'. -/
def rootsBothCard : Claim7 := { stood := { row := rootsBothRow, standIns := [], harness := (true, "eb200b34f50dd3952de1662d94e6dcdd3699821c4ce947b73a861d35f98d002f"), looks := false }, kinds := [], alts := [], laidByText := true, laidKinds := [.data, .data, .data], laidTests := true, laidLooks := .later }
def RootsBothCardSaid : Prop := Claim7.holds Tryz.pinned (.plain (OpenSpec.ofChange rootsBothSpec)) rootsBothCard

/-- THE TIED CARD OF 'gussetlaw05.RootsRefused'. -/
def rootsRefusedCard : Claim7 := { stood := { row := rootsRefusedRow, standIns := [], harness := (true, "eb200b34f50dd3952de1662d94e6dcdd3699821c4ce947b73a861d35f98d002f"), looks := false }, kinds := [], alts := [], laidByText := true, laidKinds := [.data, .data, .data], laidTests := true, laidLooks := .later }
def RootsRefusedCardSaid : Prop := Claim7.holds Tryz.pinned (.plain (OpenSpec.ofChange rootsRefusedSpec)) rootsRefusedCard

/-- THE TIED CARD OF 'gussetlaw05.RootsExact'. -/
def rootsExactCard : Claim7 := { stood := { row := rootsExactRow, standIns := [], harness := (true, "eb200b34f50dd3952de1662d94e6dcdd3699821c4ce947b73a861d35f98d002f"), looks := false }, kinds := [], alts := [], laidByText := true, laidKinds := [.data, .data, .data], laidTests := true, laidLooks := .later }
def RootsExactCardSaid : Prop := Claim7.holds Tryz.pinned (.plain (OpenSpec.ofChange rootsExactSpec)) rootsExactCard

/-- THE TIED CARD OF 'gussetlaw05.RootsRise'. -/
def rootsRiseCard : Claim7 := { stood := { row := rootsRiseRow, standIns := [], harness := (true, "eb200b34f50dd3952de1662d94e6dcdd3699821c4ce947b73a861d35f98d002f"), looks := false }, kinds := [], alts := [], laidByText := true, laidKinds := [.data, .data, .data], laidTests := true, laidLooks := .later }
def RootsRiseCardSaid : Prop := Claim7.holds Tryz.pinned (.plain (OpenSpec.ofChange rootsRiseSpec)) rootsRiseCard

/-- THE TIED CARD OF 'gussetlaw05.RootsOrder'. -/
def rootsOrderCard : Claim7 := { stood := { row := rootsOrderRow, standIns := [], harness := (true, "eb200b34f50dd3952de1662d94e6dcdd3699821c4ce947b73a861d35f98d002f"), looks := false }, kinds := [], alts := [], laidByText := true, laidKinds := [.data, .data, .data], laidTests := true, laidLooks := .later }
def RootsOrderCardSaid : Prop := Claim7.holds Tryz.pinned (.plain (OpenSpec.ofChange rootsOrderSpec)) rootsOrderCard

/-- THE TIED CARD OF 'gussetlaw05.RootsBetween'. -/
def rootsBetweenCard : Claim7 := { stood := { row := rootsBetweenRow, standIns := [], harness := (true, "eb200b34f50dd3952de1662d94e6dcdd3699821c4ce947b73a861d35f98d002f"), looks := false }, kinds := [], alts := [], laidByText := true, laidKinds := [.data, .data, .data], laidTests := true, laidLooks := .later }
def RootsBetweenCardSaid : Prop := Claim7.holds Tryz.pinned (.plain (OpenSpec.ofChange rootsBetweenSpec)) rootsBetweenCard

/-- THE TIED CARD OF 'gussetlaw05.RootsKnown'. -/
def rootsKnownCard : Claim7 := { stood := { row := rootsKnownRow, standIns := [], harness := (true, "eb200b34f50dd3952de1662d94e6dcdd3699821c4ce947b73a861d35f98d002f"), looks := false }, kinds := [], alts := [], laidByText := true, laidKinds := [.data, .data, .data], laidTests := true, laidLooks := .later }
def RootsKnownCardSaid : Prop := Claim7.holds Tryz.pinned (.plain (OpenSpec.ofChange rootsKnownSpec)) rootsKnownCard

/-- THE TIED CARD OF 'gussetlaw03.FracsKnown'. -/
def fracsKnownCard : Claim7 := { stood := { row := fracsKnownRow, standIns := [], harness := (true, "eb200b34f50dd3952de1662d94e6dcdd3699821c4ce947b73a861d35f98d002f"), looks := false }, kinds := [], alts := [], laidByText := true, laidKinds := [.data, .data, .data], laidTests := true, laidLooks := .later }
def FracsKnownCardSaid : Prop := Claim7.holds Tryz.pinned (.plain (OpenSpec.ofChange fracsKnownSpec)) fracsKnownCard

/-- THE TIED CARD OF 'gussetlaw04.DecimalsTexts'. -/
def decimalsTextsCard : Claim7 := { stood := { row := decimalsTextsRow, standIns := [], harness := (true, "eb200b34f50dd3952de1662d94e6dcdd3699821c4ce947b73a861d35f98d002f"), looks := false }, kinds := [], alts := [], laidByText := true, laidKinds := [.data, .data, .data], laidTests := true, laidLooks := .later }
def DecimalsTextsCardSaid : Prop := Claim7.holds Tryz.pinned (.plain (OpenSpec.ofChange decimalsTextsSpec)) decimalsTextsCard

/-- THE TIED CARD OF 'gussetlaw04.DecimalsReads'. -/
def decimalsReadsCard : Claim7 := { stood := { row := decimalsReadsRow, standIns := [], harness := (true, "eb200b34f50dd3952de1662d94e6dcdd3699821c4ce947b73a861d35f98d002f"), looks := false }, kinds := [], alts := [], laidByText := true, laidKinds := [.data, .data, .data], laidTests := true, laidLooks := .later }
def DecimalsReadsCardSaid : Prop := Claim7.holds Tryz.pinned (.plain (OpenSpec.ofChange decimalsReadsSpec)) decimalsReadsCard

/-- THE TIED CARD OF 'gussetlaw04.DecimalsCycle'. -/
def decimalsCycleCard : Claim7 := { stood := { row := decimalsCycleRow, standIns := [], harness := (true, "eb200b34f50dd3952de1662d94e6dcdd3699821c4ce947b73a861d35f98d002f"), looks := false }, kinds := [], alts := [], laidByText := true, laidKinds := [.data, .data, .data], laidTests := true, laidLooks := .later }
def DecimalsCycleCardSaid : Prop := Claim7.holds Tryz.pinned (.plain (OpenSpec.ofChange decimalsCycleSpec)) decimalsCycleCard

/-- THE TIED CARD OF 'gussetlaw04.DecimalsKnown'. -/
def decimalsKnownCard : Claim7 := { stood := { row := decimalsKnownRow, standIns := [], harness := (true, "eb200b34f50dd3952de1662d94e6dcdd3699821c4ce947b73a861d35f98d002f"), looks := false }, kinds := [], alts := [], laidByText := true, laidKinds := [.data, .data, .data], laidTests := true, laidLooks := .later }
def DecimalsKnownCardSaid : Prop := Claim7.holds Tryz.pinned (.plain (OpenSpec.ofChange decimalsKnownSpec)) decimalsKnownCard

/-- THE SECOND FORM's CARD OF 'gussetlaw23.PointsCut'. -/
def pointsCutUptoCard : Claim7 := { stood := { row := pointsCutUptoRow, standIns := [], harness := (true, "eb200b34f50dd3952de1662d94e6dcdd3699821c4ce947b73a861d35f98d002f"), looks := false }, kinds := [], alts := [], laidByText := true, laidKinds := [.data, .data, .data], laidTests := true, laidLooks := .later }
def PointsCutUptoCardSaid : Prop := Claim7.holds Tryz.pinned (.plain (OpenSpec.upto pointsCutSpec)) pointsCutUptoCard

/-- THE SECOND FORM's CARD OF 'gussetlaw05.RootsBoth'. -/
def rootsBothUptoCard : Claim7 := { stood := { row := rootsBothUptoRow, standIns := [], harness := (true, "eb200b34f50dd3952de1662d94e6dcdd3699821c4ce947b73a861d35f98d002f"), looks := false }, kinds := [], alts := [], laidByText := true, laidKinds := [.data, .data, .data], laidTests := true, laidLooks := .later }
def RootsBothUptoCardSaid : Prop := Claim7.holds Tryz.pinned (.plain (OpenSpec.upto rootsBothSpec)) rootsBothUptoCard

/-- THE SECOND FORM's CARD OF 'gussetlaw05.RootsRefused'. -/
def rootsRefusedUptoCard : Claim7 := { stood := { row := rootsRefusedUptoRow, standIns := [], harness := (true, "eb200b34f50dd3952de1662d94e6dcdd3699821c4ce947b73a861d35f98d002f"), looks := false }, kinds := [], alts := [], laidByText := true, laidKinds := [.data, .data, .data], laidTests := true, laidLooks := .later }
def RootsRefusedUptoCardSaid : Prop := Claim7.holds Tryz.pinned (.plain (OpenSpec.upto rootsRefusedSpec)) rootsRefusedUptoCard

/-- THE SECOND FORM's CARD OF 'gussetlaw05.RootsExact'. -/
def rootsExactUptoCard : Claim7 := { stood := { row := rootsExactUptoRow, standIns := [], harness := (true, "eb200b34f50dd3952de1662d94e6dcdd3699821c4ce947b73a861d35f98d002f"), looks := false }, kinds := [], alts := [], laidByText := true, laidKinds := [.data, .data, .data], laidTests := true, laidLooks := .later }
def RootsExactUptoCardSaid : Prop := Claim7.holds Tryz.pinned (.plain (OpenSpec.upto rootsExactSpec)) rootsExactUptoCard

/-- THE SECOND FORM's CARD OF 'gussetlaw05.RootsRise'. -/
def rootsRiseUptoCard : Claim7 := { stood := { row := rootsRiseUptoRow, standIns := [], harness := (true, "eb200b34f50dd3952de1662d94e6dcdd3699821c4ce947b73a861d35f98d002f"), looks := false }, kinds := [], alts := [], laidByText := true, laidKinds := [.data, .data, .data], laidTests := true, laidLooks := .later }
def RootsRiseUptoCardSaid : Prop := Claim7.holds Tryz.pinned (.plain (OpenSpec.upto rootsRiseSpec)) rootsRiseUptoCard

/-- THE SECOND FORM's CARD OF 'gussetlaw05.RootsOrder'. -/
def rootsOrderUptoCard : Claim7 := { stood := { row := rootsOrderUptoRow, standIns := [], harness := (true, "eb200b34f50dd3952de1662d94e6dcdd3699821c4ce947b73a861d35f98d002f"), looks := false }, kinds := [], alts := [], laidByText := true, laidKinds := [.data, .data, .data], laidTests := true, laidLooks := .later }
def RootsOrderUptoCardSaid : Prop := Claim7.holds Tryz.pinned (.plain (OpenSpec.upto rootsOrderSpec)) rootsOrderUptoCard

/-- THE SECOND FORM's CARD OF 'gussetlaw05.RootsBetween'. -/
def rootsBetweenUptoCard : Claim7 := { stood := { row := rootsBetweenUptoRow, standIns := [], harness := (true, "eb200b34f50dd3952de1662d94e6dcdd3699821c4ce947b73a861d35f98d002f"), looks := false }, kinds := [], alts := [], laidByText := true, laidKinds := [.data, .data, .data], laidTests := true, laidLooks := .later }
def RootsBetweenUptoCardSaid : Prop := Claim7.holds Tryz.pinned (.plain (OpenSpec.upto rootsBetweenSpec)) rootsBetweenUptoCard

/-- THE SECOND FORM's CARD OF 'gussetlaw05.RootsKnown'. -/
def rootsKnownUptoCard : Claim7 := { stood := { row := rootsKnownUptoRow, standIns := [], harness := (true, "eb200b34f50dd3952de1662d94e6dcdd3699821c4ce947b73a861d35f98d002f"), looks := false }, kinds := [], alts := [], laidByText := true, laidKinds := [.data, .data, .data], laidTests := true, laidLooks := .later }
def RootsKnownUptoCardSaid : Prop := Claim7.holds Tryz.pinned (.plain (OpenSpec.upto rootsKnownSpec)) rootsKnownUptoCard

/-- THE SECOND FORM's CARD OF 'gussetlaw03.FracsKnown'. -/
def fracsKnownUptoCard : Claim7 := { stood := { row := fracsKnownUptoRow, standIns := [], harness := (true, "eb200b34f50dd3952de1662d94e6dcdd3699821c4ce947b73a861d35f98d002f"), looks := false }, kinds := [], alts := [], laidByText := true, laidKinds := [.data, .data, .data], laidTests := true, laidLooks := .later }
def FracsKnownUptoCardSaid : Prop := Claim7.holds Tryz.pinned (.plain (OpenSpec.upto fracsKnownSpec)) fracsKnownUptoCard

/-- THE SECOND FORM's CARD OF 'gussetlaw04.DecimalsTexts'. -/
def decimalsTextsUptoCard : Claim7 := { stood := { row := decimalsTextsUptoRow, standIns := [], harness := (true, "eb200b34f50dd3952de1662d94e6dcdd3699821c4ce947b73a861d35f98d002f"), looks := false }, kinds := [], alts := [], laidByText := true, laidKinds := [.data, .data, .data], laidTests := true, laidLooks := .later }
def DecimalsTextsUptoCardSaid : Prop := Claim7.holds Tryz.pinned (.plain (OpenSpec.upto decimalsTextsSpec)) decimalsTextsUptoCard

/-- THE SECOND FORM's CARD OF 'gussetlaw04.DecimalsReads'. -/
def decimalsReadsUptoCard : Claim7 := { stood := { row := decimalsReadsUptoRow, standIns := [], harness := (true, "eb200b34f50dd3952de1662d94e6dcdd3699821c4ce947b73a861d35f98d002f"), looks := false }, kinds := [], alts := [], laidByText := true, laidKinds := [.data, .data, .data], laidTests := true, laidLooks := .later }
def DecimalsReadsUptoCardSaid : Prop := Claim7.holds Tryz.pinned (.plain (OpenSpec.upto decimalsReadsSpec)) decimalsReadsUptoCard

/-- THE SECOND FORM's CARD OF 'gussetlaw04.DecimalsCycle'. -/
def decimalsCycleUptoCard : Claim7 := { stood := { row := decimalsCycleUptoRow, standIns := [], harness := (true, "eb200b34f50dd3952de1662d94e6dcdd3699821c4ce947b73a861d35f98d002f"), looks := false }, kinds := [], alts := [], laidByText := true, laidKinds := [.data, .data, .data], laidTests := true, laidLooks := .later }
def DecimalsCycleUptoCardSaid : Prop := Claim7.holds Tryz.pinned (.plain (OpenSpec.upto decimalsCycleSpec)) decimalsCycleUptoCard

/-- THE SECOND FORM's CARD OF 'gussetlaw04.DecimalsKnown'. -/
def decimalsKnownUptoCard : Claim7 := { stood := { row := decimalsKnownUptoRow, standIns := [], harness := (true, "eb200b34f50dd3952de1662d94e6dcdd3699821c4ce947b73a861d35f98d002f"), looks := false }, kinds := [], alts := [], laidByText := true, laidKinds := [.data, .data, .data], laidTests := true, laidLooks := .later }
def DecimalsKnownUptoCardSaid : Prop := Claim7.holds Tryz.pinned (.plain (OpenSpec.upto decimalsKnownSpec)) decimalsKnownUptoCard
end Rows
end Go.Proofs.YtaflakcemiilaaaGreatDoor
