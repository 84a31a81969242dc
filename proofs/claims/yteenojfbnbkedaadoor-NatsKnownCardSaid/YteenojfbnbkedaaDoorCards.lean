/-
  DERIVED. GIVEN WITH THE SEED: THE CARDS: each row of YteenojfbnbkedaaDoorRows.lean that lists a variable, with what it lists TIED to the program's text (the seventh form; the later family's looks); each row that meets fmt, with fmt's text TOLD by the authors' own Lean function (tested against real Go, not proved from fmt's source: count such statements apart). THE CARD IS WHAT COUNTS. Prove the row's statement (the work); the ties are given (YteenojfbnbkedaaDoorTie.lean); close each card by the builder's one call (the guide's Derived/Test/ToyasCard.lean, 'card_holds'). Laid BY PROGRAM, IN A SANDBOX (cutbox-door.mjs). By AI agents, Wed Nov 11 2026. No macro, syntax, notation, axiom, sorry.
-/
import Derived.Test.YteenojfbnbkedaaDoorRows
import GoSem.ClaimSeven
namespace Go.Proofs.YteenojfbnbkedaaDoor
namespace Rows

/-- THE TIED CARD OF 'gussetlaw01.NatsSums'. -/
def natsSumsCard : Claim7 := { stood := { row := natsSumsRow, standIns := [], harness := (true, "3b441c5a7b13be19448e7ae0ae1a410f818b3a8c8f25d55929d354114198a648"), looks := false }, kinds := [], alts := [], laidByText := true, laidKinds := [.data, .data, .data], laidTests := true, laidLooks := .later }
def NatsSumsCardSaid : Prop := Claim7.holds Tryd.pinned (.plain (OpenSpec.ofChange natsSumsSpec)) natsSumsCard

/-- THE TIED CARD OF 'gussetlaw01.NatsProducts'. -/
def natsProductsCard : Claim7 := { stood := { row := natsProductsRow, standIns := [], harness := (true, "3b441c5a7b13be19448e7ae0ae1a410f818b3a8c8f25d55929d354114198a648"), looks := false }, kinds := [], alts := [], laidByText := true, laidKinds := [.data, .data, .data], laidTests := true, laidLooks := .later }
def NatsProductsCardSaid : Prop := Claim7.holds Tryd.pinned (.plain (OpenSpec.ofChange natsProductsSpec)) natsProductsCard

/-- THE TIED CARD OF 'gussetlaw01.NatsRoots'. -/
def natsRootsCard : Claim7 := { stood := { row := natsRootsRow, standIns := [], harness := (true, "3b441c5a7b13be19448e7ae0ae1a410f818b3a8c8f25d55929d354114198a648"), looks := false }, kinds := [], alts := [], laidByText := true, laidKinds := [.data, .data, .data], laidTests := true, laidLooks := .later }
def NatsRootsCardSaid : Prop := Claim7.holds Tryd.pinned (.plain (OpenSpec.ofChange natsRootsSpec)) natsRootsCard

/-- THE TIED CARD OF 'gussetlaw01.NatsReads'. -/
def natsReadsCard : Claim7 := { stood := { row := natsReadsRow, standIns := [], harness := (true, "3b441c5a7b13be19448e7ae0ae1a410f818b3a8c8f25d55929d354114198a648"), looks := false }, kinds := [], alts := [], laidByText := true, laidKinds := [.data, .data, .data], laidTests := true, laidLooks := .later }
def NatsReadsCardSaid : Prop := Claim7.holds Tryd.pinned (.plain (OpenSpec.ofChange natsReadsSpec)) natsReadsCard

/-- THE TIED CARD OF 'gussetlaw01.NatsDivides'. -/
def natsDividesCard : Claim7 := { stood := { row := natsDividesRow, standIns := [], harness := (true, "3b441c5a7b13be19448e7ae0ae1a410f818b3a8c8f25d55929d354114198a648"), looks := false }, kinds := [], alts := [], laidByText := true, laidKinds := [.data, .data, .data], laidTests := true, laidLooks := .later }
def NatsDividesCardSaid : Prop := Claim7.holds Tryd.pinned (.plain (OpenSpec.ofChange natsDividesSpec)) natsDividesCard

/-- THE TIED CARD OF 'gussetlaw01.NatsDivisors'. -/
def natsDivisorsCard : Claim7 := { stood := { row := natsDivisorsRow, standIns := [], harness := (true, "3b441c5a7b13be19448e7ae0ae1a410f818b3a8c8f25d55929d354114198a648"), looks := false }, kinds := [], alts := [], laidByText := true, laidKinds := [.data, .data, .data], laidTests := true, laidLooks := .later }
def NatsDivisorsCardSaid : Prop := Claim7.holds Tryd.pinned (.plain (OpenSpec.ofChange natsDivisorsSpec)) natsDivisorsCard

/-- THE TIED CARD OF 'gussetlaw01.NatsTexts'. -/
def natsTextsCard : Claim7 := { stood := { row := natsTextsRow, standIns := [], harness := (true, "3b441c5a7b13be19448e7ae0ae1a410f818b3a8c8f25d55929d354114198a648"), looks := false }, kinds := [], alts := [], laidByText := true, laidKinds := [.data, .data, .data], laidTests := true, laidLooks := .later }
def NatsTextsCardSaid : Prop := Claim7.holds Tryd.pinned (.plain (OpenSpec.ofChange natsTextsSpec)) natsTextsCard

/-- THE TIED CARD OF 'gussetlaw01.NatsRings'. -/
def natsRingsCard : Claim7 := { stood := { row := natsRingsRow, standIns := [], harness := (true, "3b441c5a7b13be19448e7ae0ae1a410f818b3a8c8f25d55929d354114198a648"), looks := false }, kinds := [], alts := [], laidByText := true, laidKinds := [.data, .data, .data], laidTests := true, laidLooks := .later }
def NatsRingsCardSaid : Prop := Claim7.holds Tryd.pinned (.plain (OpenSpec.ofChange natsRingsSpec)) natsRingsCard

/-- THE TIED CARD OF 'gussetlaw01.NatsKnown'. -/
def natsKnownCard : Claim7 := { stood := { row := natsKnownRow, standIns := [], harness := (true, "3b441c5a7b13be19448e7ae0ae1a410f818b3a8c8f25d55929d354114198a648"), looks := false }, kinds := [], alts := [], laidByText := true, laidKinds := [.data, .data, .data], laidTests := true, laidLooks := .later }
def NatsKnownCardSaid : Prop := Claim7.holds Tryd.pinned (.plain (OpenSpec.ofChange natsKnownSpec)) natsKnownCard

/-- THE SECOND FORM's CARD OF 'gussetlaw01.NatsSums'. -/
def natsSumsUptoCard : Claim7 := { stood := { row := natsSumsUptoRow, standIns := [], harness := (true, "3b441c5a7b13be19448e7ae0ae1a410f818b3a8c8f25d55929d354114198a648"), looks := false }, kinds := [], alts := [], laidByText := true, laidKinds := [.data, .data, .data], laidTests := true, laidLooks := .later }
def NatsSumsUptoCardSaid : Prop := Claim7.holds Tryd.pinned (.plain (OpenSpec.upto natsSumsSpec)) natsSumsUptoCard

/-- THE SECOND FORM's CARD OF 'gussetlaw01.NatsProducts'. -/
def natsProductsUptoCard : Claim7 := { stood := { row := natsProductsUptoRow, standIns := [], harness := (true, "3b441c5a7b13be19448e7ae0ae1a410f818b3a8c8f25d55929d354114198a648"), looks := false }, kinds := [], alts := [], laidByText := true, laidKinds := [.data, .data, .data], laidTests := true, laidLooks := .later }
def NatsProductsUptoCardSaid : Prop := Claim7.holds Tryd.pinned (.plain (OpenSpec.upto natsProductsSpec)) natsProductsUptoCard

/-- THE SECOND FORM's CARD OF 'gussetlaw01.NatsRoots'. -/
def natsRootsUptoCard : Claim7 := { stood := { row := natsRootsUptoRow, standIns := [], harness := (true, "3b441c5a7b13be19448e7ae0ae1a410f818b3a8c8f25d55929d354114198a648"), looks := false }, kinds := [], alts := [], laidByText := true, laidKinds := [.data, .data, .data], laidTests := true, laidLooks := .later }
def NatsRootsUptoCardSaid : Prop := Claim7.holds Tryd.pinned (.plain (OpenSpec.upto natsRootsSpec)) natsRootsUptoCard

/-- THE SECOND FORM's CARD OF 'gussetlaw01.NatsReads'. -/
def natsReadsUptoCard : Claim7 := { stood := { row := natsReadsUptoRow, standIns := [], harness := (true, "3b441c5a7b13be19448e7ae0ae1a410f818b3a8c8f25d55929d354114198a648"), looks := false }, kinds := [], alts := [], laidByText := true, laidKinds := [.data, .data, .data], laidTests := true, laidLooks := .later }
def NatsReadsUptoCardSaid : Prop := Claim7.holds Tryd.pinned (.plain (OpenSpec.upto natsReadsSpec)) natsReadsUptoCard

/-- THE SECOND FORM's CARD OF 'gussetlaw01.NatsDivides'. -/
def natsDividesUptoCard : Claim7 := { stood := { row := natsDividesUptoRow, standIns := [], harness := (true, "3b441c5a7b13be19448e7ae0ae1a410f818b3a8c8f25d55929d354114198a648"), looks := false }, kinds := [], alts := [], laidByText := true, laidKinds := [.data, .data, .data], laidTests := true, laidLooks := .later }
def NatsDividesUptoCardSaid : Prop := Claim7.holds Tryd.pinned (.plain (OpenSpec.upto natsDividesSpec)) natsDividesUptoCard

/-- THE SECOND FORM's CARD OF 'gussetlaw01.NatsDivisors'. -/
def natsDivisorsUptoCard : Claim7 := { stood := { row := natsDivisorsUptoRow, standIns := [], harness := (true, "3b441c5a7b13be19448e7ae0ae1a410f818b3a8c8f25d55929d354114198a648"), looks := false }, kinds := [], alts := [], laidByText := true, laidKinds := [.data, .data, .data], laidTests := true, laidLooks := .later }
def NatsDivisorsUptoCardSaid : Prop := Claim7.holds Tryd.pinned (.plain (OpenSpec.upto natsDivisorsSpec)) natsDivisorsUptoCard

/-- THE SECOND FORM's CARD OF 'gussetlaw01.NatsTexts'. -/
def natsTextsUptoCard : Claim7 := { stood := { row := natsTextsUptoRow, standIns := [], harness := (true, "3b441c5a7b13be19448e7ae0ae1a410f818b3a8c8f25d55929d354114198a648"), looks := false }, kinds := [], alts := [], laidByText := true, laidKinds := [.data, .data, .data], laidTests := true, laidLooks := .later }
def NatsTextsUptoCardSaid : Prop := Claim7.holds Tryd.pinned (.plain (OpenSpec.upto natsTextsSpec)) natsTextsUptoCard

/-- THE SECOND FORM's CARD OF 'gussetlaw01.NatsRings'. -/
def natsRingsUptoCard : Claim7 := { stood := { row := natsRingsUptoRow, standIns := [], harness := (true, "3b441c5a7b13be19448e7ae0ae1a410f818b3a8c8f25d55929d354114198a648"), looks := false }, kinds := [], alts := [], laidByText := true, laidKinds := [.data, .data, .data], laidTests := true, laidLooks := .later }
def NatsRingsUptoCardSaid : Prop := Claim7.holds Tryd.pinned (.plain (OpenSpec.upto natsRingsSpec)) natsRingsUptoCard

/-- THE SECOND FORM's CARD OF 'gussetlaw01.NatsKnown'. -/
def natsKnownUptoCard : Claim7 := { stood := { row := natsKnownUptoRow, standIns := [], harness := (true, "3b441c5a7b13be19448e7ae0ae1a410f818b3a8c8f25d55929d354114198a648"), looks := false }, kinds := [], alts := [], laidByText := true, laidKinds := [.data, .data, .data], laidTests := true, laidLooks := .later }
def NatsKnownUptoCardSaid : Prop := Claim7.holds Tryd.pinned (.plain (OpenSpec.upto natsKnownSpec)) natsKnownUptoCard
end Rows
end Go.Proofs.YteenojfbnbkedaaDoor
