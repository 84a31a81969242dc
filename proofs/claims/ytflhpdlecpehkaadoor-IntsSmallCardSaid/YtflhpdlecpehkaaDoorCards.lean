/-
  DERIVED. GIVEN WITH THE SEED: THE CARDS: each row of YtflhpdlecpehkaaDoorRows.lean that lists a variable, with what it lists TIED to the program's text (the seventh form; the later family's looks); each row that meets fmt, with fmt's text TOLD by the authors' own Lean function (tested against real Go, not proved from fmt's source: count such statements apart). THE CARD IS WHAT COUNTS. Prove the row's statement (the work); the ties are given (YtflhpdlecpehkaaDoorTie.lean); close each card by the builder's one call (the guide's Derived/Test/ToyasCard.lean, 'card_holds'). Laid BY PROGRAM, IN A SANDBOX (cutbox-door.mjs). By AI agents, Wed Nov 11 2026. No macro, syntax, notation, axiom, sorry.
-/
import Derived.Test.YtflhpdlecpehkaaDoorRows
import GoSem.ClaimSeven
namespace Go.Proofs.YtflhpdlecpehkaaDoor
namespace Rows

/-- THE TIED CARD OF 'gussetlaw02.IntsReads'. -/
def intsReadsCard : Claim7 := { stood := { row := intsReadsRow, standIns := [], harness := (true, "d05cd78e81f858ec60f9efaef75e8246038527decf4d9a313b994627e2cab80f"), looks := false }, kinds := [], alts := [], laidByText := true, laidKinds := [.data, .data, .data], laidTests := true, laidLooks := .later }
def IntsReadsCardSaid : Prop := Claim7.holds Tryd.pinned (.plain (OpenSpec.ofChange intsReadsSpec)) intsReadsCard

/-- THE TIED CARD OF 'gussetlaw02.IntsTexts'. -/
def intsTextsCard : Claim7 := { stood := { row := intsTextsRow, standIns := [], harness := (true, "d05cd78e81f858ec60f9efaef75e8246038527decf4d9a313b994627e2cab80f"), looks := false }, kinds := [], alts := [], laidByText := true, laidKinds := [.data, .data, .data], laidTests := true, laidLooks := .later }
def IntsTextsCardSaid : Prop := Claim7.holds Tryd.pinned (.plain (OpenSpec.ofChange intsTextsSpec)) intsTextsCard

/-- THE TIED CARD OF 'gussetlaw02.IntsRings'. -/
def intsRingsCard : Claim7 := { stood := { row := intsRingsRow, standIns := [], harness := (true, "d05cd78e81f858ec60f9efaef75e8246038527decf4d9a313b994627e2cab80f"), looks := false }, kinds := [], alts := [], laidByText := true, laidKinds := [.data, .data, .data], laidTests := true, laidLooks := .later }
def IntsRingsCardSaid : Prop := Claim7.holds Tryd.pinned (.plain (OpenSpec.ofChange intsRingsSpec)) intsRingsCard

/-- THE TIED CARD OF 'gussetlaw02.IntsDivides'. -/
def intsDividesCard : Claim7 := { stood := { row := intsDividesRow, standIns := [], harness := (true, "d05cd78e81f858ec60f9efaef75e8246038527decf4d9a313b994627e2cab80f"), looks := false }, kinds := [], alts := [], laidByText := true, laidKinds := [.data, .data, .data], laidTests := true, laidLooks := .later }
def IntsDividesCardSaid : Prop := Claim7.holds Tryd.pinned (.plain (OpenSpec.ofChange intsDividesSpec)) intsDividesCard

/-- THE TIED CARD OF 'gussetlaw02.IntsSmall'. -/
def intsSmallCard : Claim7 := { stood := { row := intsSmallRow, standIns := [], harness := (true, "d05cd78e81f858ec60f9efaef75e8246038527decf4d9a313b994627e2cab80f"), looks := false }, kinds := [], alts := [], laidByText := true, laidKinds := [.data, .data, .data], laidTests := true, laidLooks := .later }
def IntsSmallCardSaid : Prop := Claim7.holds Tryd.pinned (.plain (OpenSpec.ofChange intsSmallSpec)) intsSmallCard

/-- THE SECOND FORM's CARD OF 'gussetlaw02.IntsReads'. -/
def intsReadsUptoCard : Claim7 := { stood := { row := intsReadsUptoRow, standIns := [], harness := (true, "d05cd78e81f858ec60f9efaef75e8246038527decf4d9a313b994627e2cab80f"), looks := false }, kinds := [], alts := [], laidByText := true, laidKinds := [.data, .data, .data], laidTests := true, laidLooks := .later }
def IntsReadsUptoCardSaid : Prop := Claim7.holds Tryd.pinned (.plain (OpenSpec.upto intsReadsSpec)) intsReadsUptoCard

/-- THE SECOND FORM's CARD OF 'gussetlaw02.IntsTexts'. -/
def intsTextsUptoCard : Claim7 := { stood := { row := intsTextsUptoRow, standIns := [], harness := (true, "d05cd78e81f858ec60f9efaef75e8246038527decf4d9a313b994627e2cab80f"), looks := false }, kinds := [], alts := [], laidByText := true, laidKinds := [.data, .data, .data], laidTests := true, laidLooks := .later }
def IntsTextsUptoCardSaid : Prop := Claim7.holds Tryd.pinned (.plain (OpenSpec.upto intsTextsSpec)) intsTextsUptoCard

/-- THE SECOND FORM's CARD OF 'gussetlaw02.IntsRings'. -/
def intsRingsUptoCard : Claim7 := { stood := { row := intsRingsUptoRow, standIns := [], harness := (true, "d05cd78e81f858ec60f9efaef75e8246038527decf4d9a313b994627e2cab80f"), looks := false }, kinds := [], alts := [], laidByText := true, laidKinds := [.data, .data, .data], laidTests := true, laidLooks := .later }
def IntsRingsUptoCardSaid : Prop := Claim7.holds Tryd.pinned (.plain (OpenSpec.upto intsRingsSpec)) intsRingsUptoCard

/-- THE SECOND FORM's CARD OF 'gussetlaw02.IntsDivides'. -/
def intsDividesUptoCard : Claim7 := { stood := { row := intsDividesUptoRow, standIns := [], harness := (true, "d05cd78e81f858ec60f9efaef75e8246038527decf4d9a313b994627e2cab80f"), looks := false }, kinds := [], alts := [], laidByText := true, laidKinds := [.data, .data, .data], laidTests := true, laidLooks := .later }
def IntsDividesUptoCardSaid : Prop := Claim7.holds Tryd.pinned (.plain (OpenSpec.upto intsDividesSpec)) intsDividesUptoCard

/-- THE SECOND FORM's CARD OF 'gussetlaw02.IntsSmall'. -/
def intsSmallUptoCard : Claim7 := { stood := { row := intsSmallUptoRow, standIns := [], harness := (true, "d05cd78e81f858ec60f9efaef75e8246038527decf4d9a313b994627e2cab80f"), looks := false }, kinds := [], alts := [], laidByText := true, laidKinds := [.data, .data, .data], laidTests := true, laidLooks := .later }
def IntsSmallUptoCardSaid : Prop := Claim7.holds Tryd.pinned (.plain (OpenSpec.upto intsSmallSpec)) intsSmallUptoCard
end Rows
end Go.Proofs.YtflhpdlecpehkaaDoor
