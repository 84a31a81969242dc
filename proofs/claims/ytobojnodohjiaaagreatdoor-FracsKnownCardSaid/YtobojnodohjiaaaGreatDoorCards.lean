/-
  DERIVED. GIVEN WITH THE SEED: THE CARDS: each row of YtobojnodohjiaaaGreatDoorRows.lean that lists a variable, with what it lists TIED to the program's text (the seventh form; the later family's looks); each row that meets fmt, with fmt's text TOLD by the authors' own Lean function (tested against real Go, not proved from fmt's source: count such statements apart). THE CARD IS WHAT COUNTS. Prove the row's statement (the work); the ties are given (YtobojnodohjiaaaGreatDoorTie.lean); close each card by the builder's one call (the guide's Derived/Test/ToyasCard.lean, 'card_holds'). Laid BY PROGRAM, IN A SANDBOX (cutbox-door.mjs). By AI agents, Wed Nov 11 2026. No macro, syntax, notation, axiom, sorry.
-/
import Derived.Test.YtobojnodohjiaaaGreatDoorRows
import GoSem.ClaimSeven
namespace Go.Proofs.YtobojnodohjiaaaGreatDoor
namespace Rows

/-- THE TIED CARD OF 'gussetlaw23.PointsCut'. -/
def pointsCutCard : Claim7 := { stood := { row := pointsCutRow, standIns := [], harness := (true, "afc079fd19886976e46ad6200161126b18fba977a1a09a428d032e19cd27660d"), looks := false }, kinds := [], alts := [], laidByText := true, laidKinds := [.data, .data, .data], laidTests := true, laidLooks := .later }
def PointsCutCardSaid : Prop := Claim7.holds Tryz.pinned (.plain (OpenSpec.ofChange pointsCutSpec)) pointsCutCard

/-- THE TIED CARD OF 'gussetlaw07.ReconsBack'. -/
def reconsBackCard : Claim7 := { stood := { row := reconsBackRow, standIns := [], harness := (true, "afc079fd19886976e46ad6200161126b18fba977a1a09a428d032e19cd27660d"), looks := false }, kinds := [], alts := [], laidByText := true, laidKinds := [.data, .data, .data], laidTests := true, laidLooks := .later }
def ReconsBackCardSaid : Prop := Claim7.holds Tryz.pinned (.plain (OpenSpec.ofChange reconsBackSpec)) reconsBackCard

/-- THE TIED CARD OF 'gussetlaw07.ReconsChinese'. -/
def reconsChineseCard : Claim7 := { stood := { row := reconsChineseRow, standIns := [], harness := (true, "afc079fd19886976e46ad6200161126b18fba977a1a09a428d032e19cd27660d"), looks := false }, kinds := [], alts := [], laidByText := true, laidKinds := [.data, .data, .data], laidTests := true, laidLooks := .later }
def ReconsChineseCardSaid : Prop := Claim7.holds Tryz.pinned (.plain (OpenSpec.ofChange reconsChineseSpec)) reconsChineseCard

/-- THE TIED CARD OF 'gussetlaw07.ReconsThere'. -/
def reconsThereCard : Claim7 := { stood := { row := reconsThereRow, standIns := [], harness := (true, "afc079fd19886976e46ad6200161126b18fba977a1a09a428d032e19cd27660d"), looks := false }, kinds := [], alts := [], laidByText := true, laidKinds := [.data, .data, .data], laidTests := true, laidLooks := .later }
def ReconsThereCardSaid : Prop := Claim7.holds Tryz.pinned (.plain (OpenSpec.ofChange reconsThereSpec)) reconsThereCard

/-- THE TIED CARD OF 'gussetlaw07.ReconsJoins'. -/
def reconsJoinsCard : Claim7 := { stood := { row := reconsJoinsRow, standIns := [], harness := (true, "afc079fd19886976e46ad6200161126b18fba977a1a09a428d032e19cd27660d"), looks := false }, kinds := [], alts := [], laidByText := true, laidKinds := [.data, .data, .data], laidTests := true, laidLooks := .later }
def ReconsJoinsCardSaid : Prop := Claim7.holds Tryz.pinned (.plain (OpenSpec.ofChange reconsJoinsSpec)) reconsJoinsCard

/-- THE TIED CARD OF 'gussetlaw07.ReconsOne'. -/
def reconsOneCard : Claim7 := { stood := { row := reconsOneRow, standIns := [], harness := (true, "afc079fd19886976e46ad6200161126b18fba977a1a09a428d032e19cd27660d"), looks := false }, kinds := [], alts := [], laidByText := true, laidKinds := [.data, .data, .data], laidTests := true, laidLooks := .later }
def ReconsOneCardSaid : Prop := Claim7.holds Tryz.pinned (.plain (OpenSpec.ofChange reconsOneSpec)) reconsOneCard

/-- THE TIED CARD OF 'gussetlaw07.ReconsFits'. -/
def reconsFitsCard : Claim7 := { stood := { row := reconsFitsRow, standIns := [], harness := (true, "afc079fd19886976e46ad6200161126b18fba977a1a09a428d032e19cd27660d"), looks := false }, kinds := [], alts := [], laidByText := true, laidKinds := [.data, .data, .data], laidTests := true, laidLooks := .later }
def ReconsFitsCardSaid : Prop := Claim7.holds Tryz.pinned (.plain (OpenSpec.ofChange reconsFitsSpec)) reconsFitsCard

/-- THE TIED CARD OF 'gussetlaw07.ReconsPrimes'. -/
def reconsPrimesCard : Claim7 := { stood := { row := reconsPrimesRow, standIns := [], harness := (true, "afc079fd19886976e46ad6200161126b18fba977a1a09a428d032e19cd27660d"), looks := false }, kinds := [], alts := [], laidByText := true, laidKinds := [.data, .data, .data], laidTests := true, laidLooks := .later }
def ReconsPrimesCardSaid : Prop := Claim7.holds Tryz.pinned (.plain (OpenSpec.ofChange reconsPrimesSpec)) reconsPrimesCard

/-- THE TIED CARD OF 'gussetlaw07.ReconsKnown'. -/
def reconsKnownCard : Claim7 := { stood := { row := reconsKnownRow, standIns := [], harness := (true, "afc079fd19886976e46ad6200161126b18fba977a1a09a428d032e19cd27660d"), looks := false }, kinds := [], alts := [], laidByText := true, laidKinds := [.data, .data, .data], laidTests := true, laidLooks := .later }
def ReconsKnownCardSaid : Prop := Claim7.holds Tryz.pinned (.plain (OpenSpec.ofChange reconsKnownSpec)) reconsKnownCard

/-- THE TIED CARD OF 'gussetlaw03.FracsKnown'. -/
def fracsKnownCard : Claim7 := { stood := { row := fracsKnownRow, standIns := [], harness := (true, "afc079fd19886976e46ad6200161126b18fba977a1a09a428d032e19cd27660d"), looks := false }, kinds := [], alts := [], laidByText := true, laidKinds := [.data, .data, .data], laidTests := true, laidLooks := .later }
def FracsKnownCardSaid : Prop := Claim7.holds Tryz.pinned (.plain (OpenSpec.ofChange fracsKnownSpec)) fracsKnownCard

/-- THE TIED CARD OF 'gussetlaw04.DecimalsReads'. -/
def decimalsReadsCard : Claim7 := { stood := { row := decimalsReadsRow, standIns := [], harness := (true, "afc079fd19886976e46ad6200161126b18fba977a1a09a428d032e19cd27660d"), looks := false }, kinds := [], alts := [], laidByText := true, laidKinds := [.data, .data, .data], laidTests := true, laidLooks := .later }
def DecimalsReadsCardSaid : Prop := Claim7.holds Tryz.pinned (.plain (OpenSpec.ofChange decimalsReadsSpec)) decimalsReadsCard

/-- THE TIED CARD OF 'gussetlaw04.DecimalsCycle'. -/
def decimalsCycleCard : Claim7 := { stood := { row := decimalsCycleRow, standIns := [], harness := (true, "afc079fd19886976e46ad6200161126b18fba977a1a09a428d032e19cd27660d"), looks := false }, kinds := [], alts := [], laidByText := true, laidKinds := [.data, .data, .data], laidTests := true, laidLooks := .later }
def DecimalsCycleCardSaid : Prop := Claim7.holds Tryz.pinned (.plain (OpenSpec.ofChange decimalsCycleSpec)) decimalsCycleCard

/-- THE TIED CARD OF 'gussetlaw04.DecimalsKnown'. -/
def decimalsKnownCard : Claim7 := { stood := { row := decimalsKnownRow, standIns := [], harness := (true, "afc079fd19886976e46ad6200161126b18fba977a1a09a428d032e19cd27660d"), looks := false }, kinds := [], alts := [], laidByText := true, laidKinds := [.data, .data, .data], laidTests := true, laidLooks := .later }
def DecimalsKnownCardSaid : Prop := Claim7.holds Tryz.pinned (.plain (OpenSpec.ofChange decimalsKnownSpec)) decimalsKnownCard

/-- THE SECOND FORM's CARD OF 'gussetlaw23.PointsCut'. -/
def pointsCutUptoCard : Claim7 := { stood := { row := pointsCutUptoRow, standIns := [], harness := (true, "afc079fd19886976e46ad6200161126b18fba977a1a09a428d032e19cd27660d"), looks := false }, kinds := [], alts := [], laidByText := true, laidKinds := [.data, .data, .data], laidTests := true, laidLooks := .later }
def PointsCutUptoCardSaid : Prop := Claim7.holds Tryz.pinned (.plain (OpenSpec.upto pointsCutSpec)) pointsCutUptoCard

/-- THE SECOND FORM's CARD OF 'gussetlaw07.ReconsBack'. -/
def reconsBackUptoCard : Claim7 := { stood := { row := reconsBackUptoRow, standIns := [], harness := (true, "afc079fd19886976e46ad6200161126b18fba977a1a09a428d032e19cd27660d"), looks := false }, kinds := [], alts := [], laidByText := true, laidKinds := [.data, .data, .data], laidTests := true, laidLooks := .later }
def ReconsBackUptoCardSaid : Prop := Claim7.holds Tryz.pinned (.plain (OpenSpec.upto reconsBackSpec)) reconsBackUptoCard

/-- THE SECOND FORM's CARD OF 'gussetlaw07.ReconsChinese'. -/
def reconsChineseUptoCard : Claim7 := { stood := { row := reconsChineseUptoRow, standIns := [], harness := (true, "afc079fd19886976e46ad6200161126b18fba977a1a09a428d032e19cd27660d"), looks := false }, kinds := [], alts := [], laidByText := true, laidKinds := [.data, .data, .data], laidTests := true, laidLooks := .later }
def ReconsChineseUptoCardSaid : Prop := Claim7.holds Tryz.pinned (.plain (OpenSpec.upto reconsChineseSpec)) reconsChineseUptoCard

/-- THE SECOND FORM's CARD OF 'gussetlaw07.ReconsThere'. -/
def reconsThereUptoCard : Claim7 := { stood := { row := reconsThereUptoRow, standIns := [], harness := (true, "afc079fd19886976e46ad6200161126b18fba977a1a09a428d032e19cd27660d"), looks := false }, kinds := [], alts := [], laidByText := true, laidKinds := [.data, .data, .data], laidTests := true, laidLooks := .later }
def ReconsThereUptoCardSaid : Prop := Claim7.holds Tryz.pinned (.plain (OpenSpec.upto reconsThereSpec)) reconsThereUptoCard

/-- THE SECOND FORM's CARD OF 'gussetlaw07.ReconsJoins'. -/
def reconsJoinsUptoCard : Claim7 := { stood := { row := reconsJoinsUptoRow, standIns := [], harness := (true, "afc079fd19886976e46ad6200161126b18fba977a1a09a428d032e19cd27660d"), looks := false }, kinds := [], alts := [], laidByText := true, laidKinds := [.data, .data, .data], laidTests := true, laidLooks := .later }
def ReconsJoinsUptoCardSaid : Prop := Claim7.holds Tryz.pinned (.plain (OpenSpec.upto reconsJoinsSpec)) reconsJoinsUptoCard

/-- THE SECOND FORM's CARD OF 'gussetlaw07.ReconsOne'. -/
def reconsOneUptoCard : Claim7 := { stood := { row := reconsOneUptoRow, standIns := [], harness := (true, "afc079fd19886976e46ad6200161126b18fba977a1a09a428d032e19cd27660d"), looks := false }, kinds := [], alts := [], laidByText := true, laidKinds := [.data, .data, .data], laidTests := true, laidLooks := .later }
def ReconsOneUptoCardSaid : Prop := Claim7.holds Tryz.pinned (.plain (OpenSpec.upto reconsOneSpec)) reconsOneUptoCard

/-- THE SECOND FORM's CARD OF 'gussetlaw07.ReconsFits'. -/
def reconsFitsUptoCard : Claim7 := { stood := { row := reconsFitsUptoRow, standIns := [], harness := (true, "afc079fd19886976e46ad6200161126b18fba977a1a09a428d032e19cd27660d"), looks := false }, kinds := [], alts := [], laidByText := true, laidKinds := [.data, .data, .data], laidTests := true, laidLooks := .later }
def ReconsFitsUptoCardSaid : Prop := Claim7.holds Tryz.pinned (.plain (OpenSpec.upto reconsFitsSpec)) reconsFitsUptoCard

/-- THE SECOND FORM's CARD OF 'gussetlaw07.ReconsPrimes'. -/
def reconsPrimesUptoCard : Claim7 := { stood := { row := reconsPrimesUptoRow, standIns := [], harness := (true, "afc079fd19886976e46ad6200161126b18fba977a1a09a428d032e19cd27660d"), looks := false }, kinds := [], alts := [], laidByText := true, laidKinds := [.data, .data, .data], laidTests := true, laidLooks := .later }
def ReconsPrimesUptoCardSaid : Prop := Claim7.holds Tryz.pinned (.plain (OpenSpec.upto reconsPrimesSpec)) reconsPrimesUptoCard

/-- THE SECOND FORM's CARD OF 'gussetlaw07.ReconsKnown'. -/
def reconsKnownUptoCard : Claim7 := { stood := { row := reconsKnownUptoRow, standIns := [], harness := (true, "afc079fd19886976e46ad6200161126b18fba977a1a09a428d032e19cd27660d"), looks := false }, kinds := [], alts := [], laidByText := true, laidKinds := [.data, .data, .data], laidTests := true, laidLooks := .later }
def ReconsKnownUptoCardSaid : Prop := Claim7.holds Tryz.pinned (.plain (OpenSpec.upto reconsKnownSpec)) reconsKnownUptoCard

/-- THE SECOND FORM's CARD OF 'gussetlaw03.FracsKnown'. -/
def fracsKnownUptoCard : Claim7 := { stood := { row := fracsKnownUptoRow, standIns := [], harness := (true, "afc079fd19886976e46ad6200161126b18fba977a1a09a428d032e19cd27660d"), looks := false }, kinds := [], alts := [], laidByText := true, laidKinds := [.data, .data, .data], laidTests := true, laidLooks := .later }
def FracsKnownUptoCardSaid : Prop := Claim7.holds Tryz.pinned (.plain (OpenSpec.upto fracsKnownSpec)) fracsKnownUptoCard

/-- THE SECOND FORM's CARD OF 'gussetlaw04.DecimalsReads'. -/
def decimalsReadsUptoCard : Claim7 := { stood := { row := decimalsReadsUptoRow, standIns := [], harness := (true, "afc079fd19886976e46ad6200161126b18fba977a1a09a428d032e19cd27660d"), looks := false }, kinds := [], alts := [], laidByText := true, laidKinds := [.data, .data, .data], laidTests := true, laidLooks := .later }
def DecimalsReadsUptoCardSaid : Prop := Claim7.holds Tryz.pinned (.plain (OpenSpec.upto decimalsReadsSpec)) decimalsReadsUptoCard

/-- THE SECOND FORM's CARD OF 'gussetlaw04.DecimalsCycle'. -/
def decimalsCycleUptoCard : Claim7 := { stood := { row := decimalsCycleUptoRow, standIns := [], harness := (true, "afc079fd19886976e46ad6200161126b18fba977a1a09a428d032e19cd27660d"), looks := false }, kinds := [], alts := [], laidByText := true, laidKinds := [.data, .data, .data], laidTests := true, laidLooks := .later }
def DecimalsCycleUptoCardSaid : Prop := Claim7.holds Tryz.pinned (.plain (OpenSpec.upto decimalsCycleSpec)) decimalsCycleUptoCard

/-- THE SECOND FORM's CARD OF 'gussetlaw04.DecimalsKnown'. -/
def decimalsKnownUptoCard : Claim7 := { stood := { row := decimalsKnownUptoRow, standIns := [], harness := (true, "afc079fd19886976e46ad6200161126b18fba977a1a09a428d032e19cd27660d"), looks := false }, kinds := [], alts := [], laidByText := true, laidKinds := [.data, .data, .data], laidTests := true, laidLooks := .later }
def DecimalsKnownUptoCardSaid : Prop := Claim7.holds Tryz.pinned (.plain (OpenSpec.upto decimalsKnownSpec)) decimalsKnownUptoCard
end Rows
end Go.Proofs.YtobojnodohjiaaaGreatDoor
