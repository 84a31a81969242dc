/-
  No cell of these rows narrows 'for every input' (looked for: loops, veiled, ifaces, maps, wideKeys, modest, calm, conditions, laid).
  DERIVED. THE GIVEN ROWS OF THIS SEAT. 4 by the template 'for every input the law returns true; each argument reads behind the call as it read before'; 0 by the template 'total and deterministic' (their statements: YtenpbnmmadbkdaaTotals.lean).
  GIVEN WITH THE SEED: the statements are not yours to turn. If you find one false, say at which input.
  Laid BY PROGRAM, IN A SANDBOX (cutbox-rows.mjs): the forced cells as the released guide's own fill.sh prints them over the translation d99a9f39c9f59ae3… (all of the seat's roots in one cut). By AI agents, Wed Nov 11 2026. No macro, syntax, notation, axiom, sorry.
-/
import Derived.Test.YtenpbnmmadbkdaaChecked
import GoSem.Claim
import GoSem.ClaimJoined
import GoSem.ClaimMapViews
import Derived.JoinedTies
import Derived.KernelRfl
namespace Go.Proofs.Ytenpbnmmadbkdaa
/- THE CELL 'sum', in the pinned program and in every row, IS THE sha256 OF THE DUMP (.gsa) THAT YtenpbnmmadbkdaaProg.lean LOADS. Nothing in Lean hashes anything: it is a label: what it is worth is what the hold of that sum in a sandbox is worth. -/
noncomputable def Try.pinned : Pinned := { name := "ytenpbnmmadbkdaa", sum := "d99a9f39c9f59ae3f785c8bc1b72aa5651eed11b20e71213d0ce6e89b863bc4f", checked := Try.checked }
namespace Rows
def none {H : Type} : Left H := { results := [], args := [] }

/-- 'gussetlaw23.PointsFive': WHATEVER THE INPUT: true; the input reads as it did. -/
def pointsFiveSpec : ChangeSpec := { name := "pointsFive", fn := fun _ => fun
  | [d] => { results := [.lit (.bool true)], args := [d] }
  | _ => none }
def pointsFiveRow : OpenClaim := { program := "ytenpbnmmadbkdaa", sum := "d99a9f39c9f59ae3f785c8bc1b72aa5651eed11b20e71213d0ce6e89b863bc4f", func := "gusset/gussetlaw23.PointsFive", spec := "pointsFive", inPlace := ["math/bits.Add64"], unfollowed := true, recurses := true, named := ["math/bits.overflowError"], apart := false }
def PointsFiveSaid : Prop := pointsFiveRow.holds Try.pinned (OpenSpec.ofChange pointsFiveSpec)

/-- ITS FALSE NEIGHBOUR: 'it returns false'. Refute it at one input. -/
def pointsFiveWrong : ChangeSpec := { name := "pointsFive", fn := fun _ => fun
  | [d] => { results := [.lit (.bool false)], args := [d] }
  | _ => none }
def PointsFiveWrongFalsely : Prop := pointsFiveRow.holds Try.pinned (OpenSpec.ofChange pointsFiveWrong)

/-- 'gussetlaw23.PointsRound': WHATEVER THE INPUT: true; the input reads as it did. -/
def pointsRoundSpec : ChangeSpec := { name := "pointsRound", fn := fun _ => fun
  | [d] => { results := [.lit (.bool true)], args := [d] }
  | _ => none }
def pointsRoundRow : OpenClaim := { program := "ytenpbnmmadbkdaa", sum := "d99a9f39c9f59ae3f785c8bc1b72aa5651eed11b20e71213d0ce6e89b863bc4f", func := "gusset/gussetlaw23.PointsRound", spec := "pointsRound", inPlace := ["math/bits.Add64"], unfollowed := true, recurses := true, named := ["math/bits.overflowError"], apart := false }
def PointsRoundSaid : Prop := pointsRoundRow.holds Try.pinned (OpenSpec.ofChange pointsRoundSpec)

/-- ITS FALSE NEIGHBOUR: 'it returns false'. Refute it at one input. -/
def pointsRoundWrong : ChangeSpec := { name := "pointsRound", fn := fun _ => fun
  | [d] => { results := [.lit (.bool false)], args := [d] }
  | _ => none }
def PointsRoundWrongFalsely : Prop := pointsRoundRow.holds Try.pinned (OpenSpec.ofChange pointsRoundWrong)

/-- 'gussetlaw23.PointsMeet': WHATEVER THE INPUT: true; the input reads as it did. -/
def pointsMeetSpec : ChangeSpec := { name := "pointsMeet", fn := fun _ => fun
  | [d] => { results := [.lit (.bool true)], args := [d] }
  | _ => none }
def pointsMeetRow : OpenClaim := { program := "ytenpbnmmadbkdaa", sum := "d99a9f39c9f59ae3f785c8bc1b72aa5651eed11b20e71213d0ce6e89b863bc4f", func := "gusset/gussetlaw23.PointsMeet", spec := "pointsMeet", inPlace := ["math/bits.Add64"], unfollowed := true, recurses := true, named := ["math/bits.overflowError"], apart := false }
def PointsMeetSaid : Prop := pointsMeetRow.holds Try.pinned (OpenSpec.ofChange pointsMeetSpec)

/-- ITS FALSE NEIGHBOUR: 'it returns false'. Refute it at one input. -/
def pointsMeetWrong : ChangeSpec := { name := "pointsMeet", fn := fun _ => fun
  | [d] => { results := [.lit (.bool false)], args := [d] }
  | _ => none }
def PointsMeetWrongFalsely : Prop := pointsMeetRow.holds Try.pinned (OpenSpec.ofChange pointsMeetWrong)

/-- 'gussetlaw23.PointsLaws': WHATEVER THE INPUT: true; the input reads as it did. -/
def pointsLawsSpec : ChangeSpec := { name := "pointsLaws", fn := fun _ => fun
  | [d1, d2] => { results := [.lit (.bool true)], args := [d1, d2] }
  | _ => none }
def pointsLawsRow : OpenClaim := { program := "ytenpbnmmadbkdaa", sum := "d99a9f39c9f59ae3f785c8bc1b72aa5651eed11b20e71213d0ce6e89b863bc4f", func := "gusset/gussetlaw23.PointsLaws", spec := "pointsLaws", inPlace := ["math/bits.Add64"], unfollowed := true, recurses := true, named := ["math/bits.overflowError"], apart := false }
def PointsLawsSaid : Prop := pointsLawsRow.holds Try.pinned (OpenSpec.ofChange pointsLawsSpec)

/-- ITS FALSE NEIGHBOUR: 'it returns false'. Refute it at one input. -/
def pointsLawsWrong : ChangeSpec := { name := "pointsLaws", fn := fun _ => fun
  | [d1, d2] => { results := [.lit (.bool false)], args := [d1, d2] }
  | _ => none }
def PointsLawsWrongFalsely : Prop := pointsLawsRow.holds Try.pinned (OpenSpec.ofChange pointsLawsWrong)

/- THE SECOND FORM. 'bulk': how many values and letters a reading holds, each counted each time it is reached (what is shared counts as often as it is met; a slice's spare places count too). A statement '..UptoSaid' is the law's where the arguments, and the package variables that the reading takes, are together of bulk at most 1048576: NARROWER than '..Said'. Prove '..Said' where nothing that the law and all that it calls make is longer than what came in: it says more and counts as full. Else prove '..UptoSaid'. A law counts once. -/
mutual
def uptoBulk {H : Type} : DataW H → Nat
  | .lit (.string bytes) => bytes.length + 1
  | .lit _ => 1
  | .nil => 1
  | .ptr d => uptoBulk d + 1
  | .slice elems spare => uptoBulkAll elems + uptoBulkAll spare + 1
  | .agg parts => uptoBulkAll parts + 1
  | .iface _ d => uptoBulk d + 1
  | .map entries => uptoBulkEntries entries + 1
  | .held _ => 1
def uptoBulkAll {H : Type} : List (DataW H) → Nat
  | [] => 0
  | d :: r => uptoBulk d + uptoBulkAll r
def uptoBulkEntries {H : Type} : List (Lit × DataW H) → Nat
  | [] => 0
  | x :: r => uptoBulkEntry x + uptoBulkEntries r
def uptoBulkEntry {H : Type} : Lit × DataW H → Nat
  | (.string bytes, d) => bytes.length + uptoBulk d + 1
  | (_, d) => uptoBulk d + 1
 end
def uptoSmall : (H : Type) → List (DataW H) → Bool := fun _ ds => decide (uptoBulkAll ds ≤ 1048576)
def OpenSpec.upto (s : _root_.Go.ChangeSpec) : _root_.Go.OpenSpec := { _root_.Go.OpenSpec.ofChange s with cond := some uptoSmall }

/-- 'gussetlaw23.PointsFive', WHERE WHAT IT READS IS OF BULK AT MOST 1048576: true; the input reads as it did. -/
def pointsFiveUptoRow : OpenClaim := { program := "ytenpbnmmadbkdaa", sum := "d99a9f39c9f59ae3f785c8bc1b72aa5651eed11b20e71213d0ce6e89b863bc4f", func := "gusset/gussetlaw23.PointsFive", spec := "pointsFive", inPlace := ["math/bits.Add64"], unfollowed := true, recurses := true, named := ["math/bits.overflowError"], apart := false, narrowed := true }
def PointsFiveUptoSaid : Prop := pointsFiveUptoRow.holds Try.pinned (OpenSpec.upto pointsFiveSpec)

/-- 'gussetlaw23.PointsRound', WHERE WHAT IT READS IS OF BULK AT MOST 1048576: true; the input reads as it did. -/
def pointsRoundUptoRow : OpenClaim := { program := "ytenpbnmmadbkdaa", sum := "d99a9f39c9f59ae3f785c8bc1b72aa5651eed11b20e71213d0ce6e89b863bc4f", func := "gusset/gussetlaw23.PointsRound", spec := "pointsRound", inPlace := ["math/bits.Add64"], unfollowed := true, recurses := true, named := ["math/bits.overflowError"], apart := false, narrowed := true }
def PointsRoundUptoSaid : Prop := pointsRoundUptoRow.holds Try.pinned (OpenSpec.upto pointsRoundSpec)

/-- 'gussetlaw23.PointsMeet', WHERE WHAT IT READS IS OF BULK AT MOST 1048576: true; the input reads as it did. -/
def pointsMeetUptoRow : OpenClaim := { program := "ytenpbnmmadbkdaa", sum := "d99a9f39c9f59ae3f785c8bc1b72aa5651eed11b20e71213d0ce6e89b863bc4f", func := "gusset/gussetlaw23.PointsMeet", spec := "pointsMeet", inPlace := ["math/bits.Add64"], unfollowed := true, recurses := true, named := ["math/bits.overflowError"], apart := false, narrowed := true }
def PointsMeetUptoSaid : Prop := pointsMeetUptoRow.holds Try.pinned (OpenSpec.upto pointsMeetSpec)

/-- 'gussetlaw23.PointsLaws', WHERE WHAT IT READS IS OF BULK AT MOST 1048576: true; the input reads as it did. -/
def pointsLawsUptoRow : OpenClaim := { program := "ytenpbnmmadbkdaa", sum := "d99a9f39c9f59ae3f785c8bc1b72aa5651eed11b20e71213d0ce6e89b863bc4f", func := "gusset/gussetlaw23.PointsLaws", spec := "pointsLaws", inPlace := ["math/bits.Add64"], unfollowed := true, recurses := true, named := ["math/bits.overflowError"], apart := false, narrowed := true }
def PointsLawsUptoSaid : Prop := pointsLawsUptoRow.holds Try.pinned (OpenSpec.upto pointsLawsSpec)

end Rows
end Go.Proofs.Ytenpbnmmadbkdaa
