/-
  DERIVED. GIVEN WITH THE SEED: THE CARDS: each row of YtpcfncbcpknobaaGreatDoorRows.lean that lists a variable, with what it lists TIED to the program's text (the seventh form; the later family's looks); each row that meets fmt, with fmt's text TOLD by the authors' own Lean function (tested against real Go, not proved from fmt's source: count such statements apart). THE CARD IS WHAT COUNTS. Prove the row's statement (the work); the ties are given (YtpcfncbcpknobaaGreatDoorTie.lean); close each card by the builder's one call (the guide's Derived/Test/ToyasCard.lean, 'card_holds'). Laid BY PROGRAM, IN A SANDBOX (cutbox-door.mjs). By AI agents, Wed Nov 11 2026. No macro, syntax, notation, axiom, sorry.
-/
import Derived.Test.YtpcfncbcpknobaaGreatDoorRows
import GoSem.ClaimSeven
namespace Go.Proofs.YtpcfncbcpknobaaGreatDoor
namespace Rows

/-- THE TIED CARD OF 'gussetlaw02.IntsKnown'. -/
def intsKnownCard : Claim7 := { stood := { row := intsKnownRow, standIns := [], harness := (true, "fff8485c6f5df618159badff144b7dabd539c3e17490dbf26fa7220597f35d5c"), looks := false }, kinds := [], alts := [], laidByText := true, laidKinds := [.data, .data, .data], laidTests := true, laidLooks := .later }
def IntsKnownCardSaid : Prop := Claim7.holds Tryz.pinned (.plain (OpenSpec.ofChange intsKnownSpec)) intsKnownCard

/-- THE TIED CARD OF 'gussetlaw23.PointsCut'. -/
def pointsCutCard : Claim7 := { stood := { row := pointsCutRow, standIns := [], harness := (true, "fff8485c6f5df618159badff144b7dabd539c3e17490dbf26fa7220597f35d5c"), looks := false }, kinds := [], alts := [], laidByText := true, laidKinds := [.data, .data, .data], laidTests := true, laidLooks := .later }
def PointsCutCardSaid : Prop := Claim7.holds Tryz.pinned (.plain (OpenSpec.ofChange pointsCutSpec)) pointsCutCard

/-- THE TIED CARD OF 'gussetlaw23.PointsOps'. -/
def pointsOpsCard : Claim7 := { stood := { row := pointsOpsRow, standIns := [], harness := (true, "fff8485c6f5df618159badff144b7dabd539c3e17490dbf26fa7220597f35d5c"), looks := false }, kinds := [], alts := [], laidByText := true, laidKinds := [.data, .data, .data], laidTests := true, laidLooks := .later }
def PointsOpsCardSaid : Prop := Claim7.holds Tryz.pinned (.plain (OpenSpec.ofChange pointsOpsSpec)) pointsOpsCard

/-- THE TIED CARD OF 'gussetlaw03.FracsReads'. -/
def fracsReadsCard : Claim7 := { stood := { row := fracsReadsRow, standIns := [], harness := (true, "fff8485c6f5df618159badff144b7dabd539c3e17490dbf26fa7220597f35d5c"), looks := false }, kinds := [], alts := [], laidByText := true, laidKinds := [.data, .data, .data], laidTests := true, laidLooks := .later }
def FracsReadsCardSaid : Prop := Claim7.holds Tryz.pinned (.plain (OpenSpec.ofChange fracsReadsSpec)) fracsReadsCard

/-- THE TIED CARD OF 'gussetlaw03.FracsFloors'. -/
def fracsFloorsCard : Claim7 := { stood := { row := fracsFloorsRow, standIns := [], harness := (true, "fff8485c6f5df618159badff144b7dabd539c3e17490dbf26fa7220597f35d5c"), looks := false }, kinds := [], alts := [], laidByText := true, laidKinds := [.data, .data, .data], laidTests := true, laidLooks := .later }
def FracsFloorsCardSaid : Prop := Claim7.holds Tryz.pinned (.plain (OpenSpec.ofChange fracsFloorsSpec)) fracsFloorsCard

/-- THE TIED CARD OF 'gussetlaw03.FracsTexts'. -/
def fracsTextsCard : Claim7 := { stood := { row := fracsTextsRow, standIns := [], harness := (true, "fff8485c6f5df618159badff144b7dabd539c3e17490dbf26fa7220597f35d5c"), looks := false }, kinds := [], alts := [], laidByText := true, laidKinds := [.data, .data, .data], laidTests := true, laidLooks := .later }
def FracsTextsCardSaid : Prop := Claim7.holds Tryz.pinned (.plain (OpenSpec.ofChange fracsTextsSpec)) fracsTextsCard

/-- THE TIED CARD OF 'gussetlaw03.FracsSums'. -/
def fracsSumsCard : Claim7 := { stood := { row := fracsSumsRow, standIns := [], harness := (true, "fff8485c6f5df618159badff144b7dabd539c3e17490dbf26fa7220597f35d5c"), looks := false }, kinds := [], alts := [], laidByText := true, laidKinds := [.data, .data, .data], laidTests := true, laidLooks := .later }
def FracsSumsCardSaid : Prop := Claim7.holds Tryz.pinned (.plain (OpenSpec.ofChange fracsSumsSpec)) fracsSumsCard

/-- THE TIED CARD OF 'gussetlaw03.FracsField'. -/
def fracsFieldCard : Claim7 := { stood := { row := fracsFieldRow, standIns := [], harness := (true, "fff8485c6f5df618159badff144b7dabd539c3e17490dbf26fa7220597f35d5c"), looks := false }, kinds := [], alts := [], laidByText := true, laidKinds := [.data, .data, .data], laidTests := true, laidLooks := .later }
def FracsFieldCardSaid : Prop := Claim7.holds Tryz.pinned (.plain (OpenSpec.ofChange fracsFieldSpec)) fracsFieldCard

/-- THE TIED CARD OF 'gussetlaw03.FracsLowest'. -/
def fracsLowestCard : Claim7 := { stood := { row := fracsLowestRow, standIns := [], harness := (true, "fff8485c6f5df618159badff144b7dabd539c3e17490dbf26fa7220597f35d5c"), looks := false }, kinds := [], alts := [], laidByText := true, laidKinds := [.data, .data, .data], laidTests := true, laidLooks := .later }
def FracsLowestCardSaid : Prop := Claim7.holds Tryz.pinned (.plain (OpenSpec.ofChange fracsLowestSpec)) fracsLowestCard

/-- THE TIED CARD OF 'gussetlaw03.FracsLists'. -/
def fracsListsCard : Claim7 := { stood := { row := fracsListsRow, standIns := [], harness := (true, "fff8485c6f5df618159badff144b7dabd539c3e17490dbf26fa7220597f35d5c"), looks := false }, kinds := [], alts := [], laidByText := true, laidKinds := [.data, .data, .data], laidTests := true, laidLooks := .later }
def FracsListsCardSaid : Prop := Claim7.holds Tryz.pinned (.plain (OpenSpec.ofChange fracsListsSpec)) fracsListsCard

/-- THE TIED CARD OF 'gussetlaw03.FracsSmall'. -/
def fracsSmallCard : Claim7 := { stood := { row := fracsSmallRow, standIns := [], harness := (true, "fff8485c6f5df618159badff144b7dabd539c3e17490dbf26fa7220597f35d5c"), looks := false }, kinds := [], alts := [], laidByText := true, laidKinds := [.data, .data, .data], laidTests := true, laidLooks := .later }
def FracsSmallCardSaid : Prop := Claim7.holds Tryz.pinned (.plain (OpenSpec.ofChange fracsSmallSpec)) fracsSmallCard

/-- THE SECOND FORM's CARD OF 'gussetlaw02.IntsKnown'. -/
def intsKnownUptoCard : Claim7 := { stood := { row := intsKnownUptoRow, standIns := [], harness := (true, "fff8485c6f5df618159badff144b7dabd539c3e17490dbf26fa7220597f35d5c"), looks := false }, kinds := [], alts := [], laidByText := true, laidKinds := [.data, .data, .data], laidTests := true, laidLooks := .later }
def IntsKnownUptoCardSaid : Prop := Claim7.holds Tryz.pinned (.plain (OpenSpec.upto intsKnownSpec)) intsKnownUptoCard

/-- THE SECOND FORM's CARD OF 'gussetlaw23.PointsCut'. -/
def pointsCutUptoCard : Claim7 := { stood := { row := pointsCutUptoRow, standIns := [], harness := (true, "fff8485c6f5df618159badff144b7dabd539c3e17490dbf26fa7220597f35d5c"), looks := false }, kinds := [], alts := [], laidByText := true, laidKinds := [.data, .data, .data], laidTests := true, laidLooks := .later }
def PointsCutUptoCardSaid : Prop := Claim7.holds Tryz.pinned (.plain (OpenSpec.upto pointsCutSpec)) pointsCutUptoCard

/-- THE SECOND FORM's CARD OF 'gussetlaw23.PointsOps'. -/
def pointsOpsUptoCard : Claim7 := { stood := { row := pointsOpsUptoRow, standIns := [], harness := (true, "fff8485c6f5df618159badff144b7dabd539c3e17490dbf26fa7220597f35d5c"), looks := false }, kinds := [], alts := [], laidByText := true, laidKinds := [.data, .data, .data], laidTests := true, laidLooks := .later }
def PointsOpsUptoCardSaid : Prop := Claim7.holds Tryz.pinned (.plain (OpenSpec.upto pointsOpsSpec)) pointsOpsUptoCard

/-- THE SECOND FORM's CARD OF 'gussetlaw03.FracsReads'. -/
def fracsReadsUptoCard : Claim7 := { stood := { row := fracsReadsUptoRow, standIns := [], harness := (true, "fff8485c6f5df618159badff144b7dabd539c3e17490dbf26fa7220597f35d5c"), looks := false }, kinds := [], alts := [], laidByText := true, laidKinds := [.data, .data, .data], laidTests := true, laidLooks := .later }
def FracsReadsUptoCardSaid : Prop := Claim7.holds Tryz.pinned (.plain (OpenSpec.upto fracsReadsSpec)) fracsReadsUptoCard

/-- THE SECOND FORM's CARD OF 'gussetlaw03.FracsFloors'. -/
def fracsFloorsUptoCard : Claim7 := { stood := { row := fracsFloorsUptoRow, standIns := [], harness := (true, "fff8485c6f5df618159badff144b7dabd539c3e17490dbf26fa7220597f35d5c"), looks := false }, kinds := [], alts := [], laidByText := true, laidKinds := [.data, .data, .data], laidTests := true, laidLooks := .later }
def FracsFloorsUptoCardSaid : Prop := Claim7.holds Tryz.pinned (.plain (OpenSpec.upto fracsFloorsSpec)) fracsFloorsUptoCard

/-- THE SECOND FORM's CARD OF 'gussetlaw03.FracsTexts'. -/
def fracsTextsUptoCard : Claim7 := { stood := { row := fracsTextsUptoRow, standIns := [], harness := (true, "fff8485c6f5df618159badff144b7dabd539c3e17490dbf26fa7220597f35d5c"), looks := false }, kinds := [], alts := [], laidByText := true, laidKinds := [.data, .data, .data], laidTests := true, laidLooks := .later }
def FracsTextsUptoCardSaid : Prop := Claim7.holds Tryz.pinned (.plain (OpenSpec.upto fracsTextsSpec)) fracsTextsUptoCard

/-- THE SECOND FORM's CARD OF 'gussetlaw03.FracsSums'. -/
def fracsSumsUptoCard : Claim7 := { stood := { row := fracsSumsUptoRow, standIns := [], harness := (true, "fff8485c6f5df618159badff144b7dabd539c3e17490dbf26fa7220597f35d5c"), looks := false }, kinds := [], alts := [], laidByText := true, laidKinds := [.data, .data, .data], laidTests := true, laidLooks := .later }
def FracsSumsUptoCardSaid : Prop := Claim7.holds Tryz.pinned (.plain (OpenSpec.upto fracsSumsSpec)) fracsSumsUptoCard

/-- THE SECOND FORM's CARD OF 'gussetlaw03.FracsField'. -/
def fracsFieldUptoCard : Claim7 := { stood := { row := fracsFieldUptoRow, standIns := [], harness := (true, "fff8485c6f5df618159badff144b7dabd539c3e17490dbf26fa7220597f35d5c"), looks := false }, kinds := [], alts := [], laidByText := true, laidKinds := [.data, .data, .data], laidTests := true, laidLooks := .later }
def FracsFieldUptoCardSaid : Prop := Claim7.holds Tryz.pinned (.plain (OpenSpec.upto fracsFieldSpec)) fracsFieldUptoCard

/-- THE SECOND FORM's CARD OF 'gussetlaw03.FracsLowest'. -/
def fracsLowestUptoCard : Claim7 := { stood := { row := fracsLowestUptoRow, standIns := [], harness := (true, "fff8485c6f5df618159badff144b7dabd539c3e17490dbf26fa7220597f35d5c"), looks := false }, kinds := [], alts := [], laidByText := true, laidKinds := [.data, .data, .data], laidTests := true, laidLooks := .later }
def FracsLowestUptoCardSaid : Prop := Claim7.holds Tryz.pinned (.plain (OpenSpec.upto fracsLowestSpec)) fracsLowestUptoCard

/-- THE SECOND FORM's CARD OF 'gussetlaw03.FracsLists'. -/
def fracsListsUptoCard : Claim7 := { stood := { row := fracsListsUptoRow, standIns := [], harness := (true, "fff8485c6f5df618159badff144b7dabd539c3e17490dbf26fa7220597f35d5c"), looks := false }, kinds := [], alts := [], laidByText := true, laidKinds := [.data, .data, .data], laidTests := true, laidLooks := .later }
def FracsListsUptoCardSaid : Prop := Claim7.holds Tryz.pinned (.plain (OpenSpec.upto fracsListsSpec)) fracsListsUptoCard

/-- THE SECOND FORM's CARD OF 'gussetlaw03.FracsSmall'. -/
def fracsSmallUptoCard : Claim7 := { stood := { row := fracsSmallUptoRow, standIns := [], harness := (true, "fff8485c6f5df618159badff144b7dabd539c3e17490dbf26fa7220597f35d5c"), looks := false }, kinds := [], alts := [], laidByText := true, laidKinds := [.data, .data, .data], laidTests := true, laidLooks := .later }
def FracsSmallUptoCardSaid : Prop := Claim7.holds Tryz.pinned (.plain (OpenSpec.upto fracsSmallSpec)) fracsSmallUptoCard
end Rows
end Go.Proofs.YtpcfncbcpknobaaGreatDoor
