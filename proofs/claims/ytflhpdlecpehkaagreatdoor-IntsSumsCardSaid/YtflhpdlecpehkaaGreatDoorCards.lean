/-
  DERIVED. GIVEN WITH THE SEED: THE CARDS: each row of YtflhpdlecpehkaaGreatDoorRows.lean that lists a variable, with what it lists TIED to the program's text (the seventh form; the later family's looks); each row that meets fmt, with fmt's text TOLD by the authors' own Lean function (tested against real Go, not proved from fmt's source: count such statements apart). THE CARD IS WHAT COUNTS. Prove the row's statement (the work); the ties are given (YtflhpdlecpehkaaGreatDoorTie.lean); close each card by the builder's one call (the guide's Derived/Test/ToyasCard.lean, 'card_holds'). Laid BY PROGRAM, IN A SANDBOX (cutbox-door.mjs). By AI agents, Wed Nov 11 2026. No macro, syntax, notation, axiom, sorry.
-/
import Derived.Test.YtflhpdlecpehkaaGreatDoorRows
import GoSem.ClaimSeven
namespace Go.Proofs.YtflhpdlecpehkaaGreatDoor
namespace Rows

/-- THE TIED CARD OF 'gussetlaw02.IntsDivs'. -/
def intsDivsCard : Claim7 := { stood := { row := intsDivsRow, standIns := [], harness := (true, "a480b429742c408a7f17cec821d51b621fdcbe2bce1820747b2fe162f21905ba"), looks := false }, kinds := [], alts := [], laidByText := true, laidKinds := [.data, .data, .data], laidTests := true, laidLooks := .later }
def IntsDivsCardSaid : Prop := Claim7.holds Tryz.pinned (.plain (OpenSpec.ofChange intsDivsSpec)) intsDivsCard

/-- THE TIED CARD OF 'gussetlaw02.IntsSums'. -/
def intsSumsCard : Claim7 := { stood := { row := intsSumsRow, standIns := [], harness := (true, "a480b429742c408a7f17cec821d51b621fdcbe2bce1820747b2fe162f21905ba"), looks := false }, kinds := [], alts := [], laidByText := true, laidKinds := [.data, .data, .data], laidTests := true, laidLooks := .later }
def IntsSumsCardSaid : Prop := Claim7.holds Tryz.pinned (.plain (OpenSpec.ofChange intsSumsSpec)) intsSumsCard

/-- THE TIED CARD OF 'gussetlaw02.IntsKnown'. -/
def intsKnownCard : Claim7 := { stood := { row := intsKnownRow, standIns := [], harness := (true, "a480b429742c408a7f17cec821d51b621fdcbe2bce1820747b2fe162f21905ba"), looks := false }, kinds := [], alts := [], laidByText := true, laidKinds := [.data, .data, .data], laidTests := true, laidLooks := .later }
def IntsKnownCardSaid : Prop := Claim7.holds Tryz.pinned (.plain (OpenSpec.ofChange intsKnownSpec)) intsKnownCard

/-- THE SECOND FORM's CARD OF 'gussetlaw02.IntsDivs'. -/
def intsDivsUptoCard : Claim7 := { stood := { row := intsDivsUptoRow, standIns := [], harness := (true, "a480b429742c408a7f17cec821d51b621fdcbe2bce1820747b2fe162f21905ba"), looks := false }, kinds := [], alts := [], laidByText := true, laidKinds := [.data, .data, .data], laidTests := true, laidLooks := .later }
def IntsDivsUptoCardSaid : Prop := Claim7.holds Tryz.pinned (.plain (OpenSpec.upto intsDivsSpec)) intsDivsUptoCard

/-- THE SECOND FORM's CARD OF 'gussetlaw02.IntsSums'. -/
def intsSumsUptoCard : Claim7 := { stood := { row := intsSumsUptoRow, standIns := [], harness := (true, "a480b429742c408a7f17cec821d51b621fdcbe2bce1820747b2fe162f21905ba"), looks := false }, kinds := [], alts := [], laidByText := true, laidKinds := [.data, .data, .data], laidTests := true, laidLooks := .later }
def IntsSumsUptoCardSaid : Prop := Claim7.holds Tryz.pinned (.plain (OpenSpec.upto intsSumsSpec)) intsSumsUptoCard

/-- THE SECOND FORM's CARD OF 'gussetlaw02.IntsKnown'. -/
def intsKnownUptoCard : Claim7 := { stood := { row := intsKnownUptoRow, standIns := [], harness := (true, "a480b429742c408a7f17cec821d51b621fdcbe2bce1820747b2fe162f21905ba"), looks := false }, kinds := [], alts := [], laidByText := true, laidKinds := [.data, .data, .data], laidTests := true, laidLooks := .later }
def IntsKnownUptoCardSaid : Prop := Claim7.holds Tryz.pinned (.plain (OpenSpec.upto intsKnownSpec)) intsKnownUptoCard
end Rows
end Go.Proofs.YtflhpdlecpehkaaGreatDoor
