/-
  NARROWER THAN 'FOR EVERY INPUT', by the rows' own cells (each row's printed sentence says how): IntsKnown: laid · PointsCut: laid · PointsOps: laid · FracsReads: laid · FracsFloors: laid · FracsTexts: laid · FracsSums: laid · FracsField: laid · FracsLowest: laid · FracsLists: laid · FracsSmall: laid.
  DERIVED. THE GIVEN ROWS OF THIS SEAT. 11 by the template 'for every input the law returns true; each argument reads behind the call as it read before'; 0 by the template 'total and deterministic' (their statements: YtpcfncbcpknobaaGreatDoorTotals.lean).
  GIVEN WITH THE SEED: the statements are not yours to turn. If you find one false, say at which input.
  Laid BY PROGRAM, IN A SANDBOX (cutbox-rows.mjs): the forced cells as the released guide's own fill.sh prints them over the translation c7b958e0c4d7f020… (all of the seat's roots in one cut). By AI agents, Wed Nov 11 2026. No macro, syntax, notation, axiom, sorry.
-/
import Derived.Test.YtpcfncbcpknobaaGreatDoorChecked
import GoSem.Claim
import GoSem.ClaimJoined
import GoSem.ClaimMapViews
import Derived.JoinedTies
import Derived.KernelRfl
namespace Go.Proofs.YtpcfncbcpknobaaGreatDoor
/- THE CELL 'sum', in the pinned program and in every row, IS THE sha256 OF THE DUMP (.gsa) THAT YtpcfncbcpknobaaGreatDoorProg.lean LOADS. Nothing in Lean hashes anything: it is a label: what it is worth is what the hold of that sum in a sandbox is worth. -/
noncomputable def Tryz.pinned : Pinned := { name := "ytpcfncbcpknobaagreatdoor", sum := "c7b958e0c4d7f020b1b538f3e1e423e9ff13f387d6d4103072c2ba0e3e1033f2", checked := Tryz.checked }
namespace Rows
def none {H : Type} : Left H := { results := [], args := [] }

/- WHAT THE LISTED PACKAGE-LEVEL VARIABLES READ AS WHEN THE CALL BEGINS. Each datum BY PROGRAM (the guide's laid-datum.mjs) off the statement by which the dump's own 'gosem.cut.vars' lays the variable. In a bare row this is a premise. The card (YtpcfncbcpknobaaGreatDoorCards.lean) ties it to the program's text. -/
def laid_math_bits_deBruijn32tab {H : Type} : DataW H := .agg [.lit (.int .u8 0), .lit (.int .u8 1), .lit (.int .u8 28), .lit (.int .u8 2), .lit (.int .u8 29), .lit (.int .u8 14), .lit (.int .u8 24), .lit (.int .u8 3), .lit (.int .u8 30), .lit (.int .u8 22), .lit (.int .u8 20), .lit (.int .u8 15), .lit (.int .u8 25), .lit (.int .u8 17), .lit (.int .u8 4), .lit (.int .u8 8), .lit (.int .u8 31), .lit (.int .u8 27), .lit (.int .u8 13), .lit (.int .u8 23), .lit (.int .u8 21), .lit (.int .u8 19), .lit (.int .u8 16), .lit (.int .u8 7), .lit (.int .u8 26), .lit (.int .u8 12), .lit (.int .u8 18), .lit (.int .u8 6), .lit (.int .u8 11), .lit (.int .u8 5), .lit (.int .u8 10), .lit (.int .u8 9)]
def laid_math_bits_deBruijn64tab {H : Type} : DataW H := .agg [.lit (.int .u8 0), .lit (.int .u8 1), .lit (.int .u8 56), .lit (.int .u8 2), .lit (.int .u8 57), .lit (.int .u8 49), .lit (.int .u8 28), .lit (.int .u8 3), .lit (.int .u8 61), .lit (.int .u8 58), .lit (.int .u8 42), .lit (.int .u8 50), .lit (.int .u8 38), .lit (.int .u8 29), .lit (.int .u8 17), .lit (.int .u8 4), .lit (.int .u8 62), .lit (.int .u8 47), .lit (.int .u8 59), .lit (.int .u8 36), .lit (.int .u8 45), .lit (.int .u8 43), .lit (.int .u8 51), .lit (.int .u8 22), .lit (.int .u8 53), .lit (.int .u8 39), .lit (.int .u8 33), .lit (.int .u8 30), .lit (.int .u8 24), .lit (.int .u8 18), .lit (.int .u8 12), .lit (.int .u8 5), .lit (.int .u8 63), .lit (.int .u8 55), .lit (.int .u8 48), .lit (.int .u8 27), .lit (.int .u8 60), .lit (.int .u8 41), .lit (.int .u8 37), .lit (.int .u8 16), .lit (.int .u8 46), .lit (.int .u8 35), .lit (.int .u8 44), .lit (.int .u8 21), .lit (.int .u8 52), .lit (.int .u8 32), .lit (.int .u8 23), .lit (.int .u8 11), .lit (.int .u8 54), .lit (.int .u8 26), .lit (.int .u8 40), .lit (.int .u8 15), .lit (.int .u8 34), .lit (.int .u8 20), .lit (.int .u8 31), .lit (.int .u8 10), .lit (.int .u8 25), .lit (.int .u8 14), .lit (.int .u8 19), .lit (.int .u8 9), .lit (.int .u8 13), .lit (.int .u8 8), .lit (.int .u8 7), .lit (.int .u8 6)]
def laid_internal_strconv_uint64pow10 {H : Type} : DataW H := .agg [.lit (.int .u64 1), .lit (.int .u64 10), .lit (.int .u64 100), .lit (.int .u64 1000), .lit (.int .u64 10000), .lit (.int .u64 100000), .lit (.int .u64 1000000), .lit (.int .u64 10000000), .lit (.int .u64 100000000), .lit (.int .u64 1000000000), .lit (.int .u64 10000000000), .lit (.int .u64 100000000000), .lit (.int .u64 1000000000000), .lit (.int .u64 10000000000000), .lit (.int .u64 100000000000000), .lit (.int .u64 1000000000000000), .lit (.int .u64 10000000000000000), .lit (.int .u64 100000000000000000), .lit (.int .u64 1000000000000000000), .lit (.int .u64 10000000000000000000)]

/-- 'gussetlaw02.IntsKnown': WHATEVER THE INPUT: true; the input reads as it did. -/
def intsKnownSpec : ChangeSpec := { name := "intsKnown", fn := fun _ => fun
  | [] => { results := [.lit (.bool true)], args := [] }
  | _ => none }
def intsKnownRow : OpenClaim := { program := "ytpcfncbcpknobaagreatdoor", sum := "c7b958e0c4d7f020b1b538f3e1e423e9ff13f387d6d4103072c2ba0e3e1033f2", func := "gusset/gussetlaw02.IntsKnown", spec := "intsKnown", inPlace := ["math/bits.Add64", "internal/abi.NoEscape", "internal/bytealg.MakeNoZero"], unfollowed := true, recurses := true, named := ["math/bits.overflowError", "internal/strconv.uint64pow10", "math/bits.deBruijn32tab", "math/bits.deBruijn64tab"], apart := false, laid := [("math/bits.deBruijn32tab", laid_math_bits_deBruijn32tab), ("math/bits.deBruijn64tab", laid_math_bits_deBruijn64tab), ("internal/strconv.uint64pow10", laid_internal_strconv_uint64pow10)] }
def IntsKnownSaid : Prop := intsKnownRow.holds Tryz.pinned (OpenSpec.ofChange intsKnownSpec)

/-- ITS FALSE NEIGHBOUR: 'it returns false'. Refute it at one input. -/
def intsKnownWrong : ChangeSpec := { name := "intsKnown", fn := fun _ => fun
  | [] => { results := [.lit (.bool false)], args := [] }
  | _ => none }
def IntsKnownWrongFalsely : Prop := intsKnownRow.holds Tryz.pinned (OpenSpec.ofChange intsKnownWrong)

/-- 'gussetlaw23.PointsCut': WHATEVER THE INPUT: true; the input reads as it did. -/
def pointsCutSpec : ChangeSpec := { name := "pointsCut", fn := fun _ => fun
  | [d] => { results := [.lit (.bool true)], args := [d] }
  | _ => none }
def pointsCutRow : OpenClaim := { program := "ytpcfncbcpknobaagreatdoor", sum := "c7b958e0c4d7f020b1b538f3e1e423e9ff13f387d6d4103072c2ba0e3e1033f2", func := "gusset/gussetlaw23.PointsCut", spec := "pointsCut", inPlace := ["math/bits.Add64", "internal/abi.NoEscape", "internal/bytealg.MakeNoZero"], unfollowed := true, recurses := true, named := ["math/bits.overflowError", "internal/strconv.uint64pow10", "math/bits.deBruijn32tab", "math/bits.deBruijn64tab"], apart := false, laid := [("math/bits.deBruijn32tab", laid_math_bits_deBruijn32tab), ("math/bits.deBruijn64tab", laid_math_bits_deBruijn64tab), ("internal/strconv.uint64pow10", laid_internal_strconv_uint64pow10)] }
def PointsCutSaid : Prop := pointsCutRow.holds Tryz.pinned (OpenSpec.ofChange pointsCutSpec)

/-- ITS FALSE NEIGHBOUR: 'it returns false'. Refute it at one input. -/
def pointsCutWrong : ChangeSpec := { name := "pointsCut", fn := fun _ => fun
  | [d] => { results := [.lit (.bool false)], args := [d] }
  | _ => none }
def PointsCutWrongFalsely : Prop := pointsCutRow.holds Tryz.pinned (OpenSpec.ofChange pointsCutWrong)

/-- 'gussetlaw23.PointsOps': WHATEVER THE INPUT: true; the input reads as it did. -/
def pointsOpsSpec : ChangeSpec := { name := "pointsOps", fn := fun _ => fun
  | [d1, d2, d3] => { results := [.lit (.bool true)], args := [d1, d2, d3] }
  | _ => none }
def pointsOpsRow : OpenClaim := { program := "ytpcfncbcpknobaagreatdoor", sum := "c7b958e0c4d7f020b1b538f3e1e423e9ff13f387d6d4103072c2ba0e3e1033f2", func := "gusset/gussetlaw23.PointsOps", spec := "pointsOps", inPlace := ["math/bits.Add64", "internal/abi.NoEscape", "internal/bytealg.MakeNoZero"], unfollowed := true, recurses := true, named := ["math/bits.overflowError", "internal/strconv.uint64pow10", "math/bits.deBruijn32tab", "math/bits.deBruijn64tab"], apart := false, laid := [("math/bits.deBruijn32tab", laid_math_bits_deBruijn32tab), ("math/bits.deBruijn64tab", laid_math_bits_deBruijn64tab), ("internal/strconv.uint64pow10", laid_internal_strconv_uint64pow10)] }
def PointsOpsSaid : Prop := pointsOpsRow.holds Tryz.pinned (OpenSpec.ofChange pointsOpsSpec)

/-- ITS FALSE NEIGHBOUR: 'it returns false'. Refute it at one input. -/
def pointsOpsWrong : ChangeSpec := { name := "pointsOps", fn := fun _ => fun
  | [d1, d2, d3] => { results := [.lit (.bool false)], args := [d1, d2, d3] }
  | _ => none }
def PointsOpsWrongFalsely : Prop := pointsOpsRow.holds Tryz.pinned (OpenSpec.ofChange pointsOpsWrong)

/-- 'gussetlaw03.FracsReads': WHATEVER THE INPUT: true; the input reads as it did. -/
def fracsReadsSpec : ChangeSpec := { name := "fracsReads", fn := fun _ => fun
  | [d] => { results := [.lit (.bool true)], args := [d] }
  | _ => none }
def fracsReadsRow : OpenClaim := { program := "ytpcfncbcpknobaagreatdoor", sum := "c7b958e0c4d7f020b1b538f3e1e423e9ff13f387d6d4103072c2ba0e3e1033f2", func := "gusset/gussetlaw03.FracsReads", spec := "fracsReads", inPlace := ["math/bits.Add64", "internal/abi.NoEscape", "internal/bytealg.MakeNoZero", "internal/bytealg.IndexByteString", "internal/bytealg.IndexString"], unfollowed := true, recurses := true, named := ["math/bits.overflowError", "internal/strconv.uint64pow10", "math/bits.deBruijn32tab", "math/bits.deBruijn64tab", "internal/bytealg.MaxLen"], apart := false, laid := [("math/bits.deBruijn32tab", laid_math_bits_deBruijn32tab), ("math/bits.deBruijn64tab", laid_math_bits_deBruijn64tab), ("internal/strconv.uint64pow10", laid_internal_strconv_uint64pow10)] }
def FracsReadsSaid : Prop := fracsReadsRow.holds Tryz.pinned (OpenSpec.ofChange fracsReadsSpec)

/-- ITS FALSE NEIGHBOUR: 'it returns false'. Refute it at one input. -/
def fracsReadsWrong : ChangeSpec := { name := "fracsReads", fn := fun _ => fun
  | [d] => { results := [.lit (.bool false)], args := [d] }
  | _ => none }
def FracsReadsWrongFalsely : Prop := fracsReadsRow.holds Tryz.pinned (OpenSpec.ofChange fracsReadsWrong)

/-- 'gussetlaw03.FracsFloors': WHATEVER THE INPUT: true; the input reads as it did. -/
def fracsFloorsSpec : ChangeSpec := { name := "fracsFloors", fn := fun _ => fun
  | [d] => { results := [.lit (.bool true)], args := [d] }
  | _ => none }
def fracsFloorsRow : OpenClaim := { program := "ytpcfncbcpknobaagreatdoor", sum := "c7b958e0c4d7f020b1b538f3e1e423e9ff13f387d6d4103072c2ba0e3e1033f2", func := "gusset/gussetlaw03.FracsFloors", spec := "fracsFloors", inPlace := ["math/bits.Add64", "internal/abi.NoEscape", "internal/bytealg.MakeNoZero", "internal/bytealg.IndexByteString", "internal/bytealg.IndexString"], unfollowed := true, recurses := true, named := ["math/bits.overflowError", "internal/strconv.uint64pow10", "math/bits.deBruijn32tab", "math/bits.deBruijn64tab", "internal/bytealg.MaxLen"], apart := false, laid := [("math/bits.deBruijn32tab", laid_math_bits_deBruijn32tab), ("math/bits.deBruijn64tab", laid_math_bits_deBruijn64tab), ("internal/strconv.uint64pow10", laid_internal_strconv_uint64pow10)] }
def FracsFloorsSaid : Prop := fracsFloorsRow.holds Tryz.pinned (OpenSpec.ofChange fracsFloorsSpec)

/-- ITS FALSE NEIGHBOUR: 'it returns false'. Refute it at one input. -/
def fracsFloorsWrong : ChangeSpec := { name := "fracsFloors", fn := fun _ => fun
  | [d] => { results := [.lit (.bool false)], args := [d] }
  | _ => none }
def FracsFloorsWrongFalsely : Prop := fracsFloorsRow.holds Tryz.pinned (OpenSpec.ofChange fracsFloorsWrong)

/-- 'gussetlaw03.FracsTexts': WHATEVER THE INPUT: true; the input reads as it did. -/
def fracsTextsSpec : ChangeSpec := { name := "fracsTexts", fn := fun _ => fun
  | [d] => { results := [.lit (.bool true)], args := [d] }
  | _ => none }
def fracsTextsRow : OpenClaim := { program := "ytpcfncbcpknobaagreatdoor", sum := "c7b958e0c4d7f020b1b538f3e1e423e9ff13f387d6d4103072c2ba0e3e1033f2", func := "gusset/gussetlaw03.FracsTexts", spec := "fracsTexts", inPlace := ["math/bits.Add64", "internal/abi.NoEscape", "internal/bytealg.MakeNoZero", "internal/bytealg.IndexByteString", "internal/bytealg.IndexString"], unfollowed := true, recurses := true, named := ["math/bits.overflowError", "internal/strconv.uint64pow10", "math/bits.deBruijn32tab", "math/bits.deBruijn64tab", "internal/bytealg.MaxLen"], apart := false, laid := [("math/bits.deBruijn32tab", laid_math_bits_deBruijn32tab), ("math/bits.deBruijn64tab", laid_math_bits_deBruijn64tab), ("internal/strconv.uint64pow10", laid_internal_strconv_uint64pow10)] }
def FracsTextsSaid : Prop := fracsTextsRow.holds Tryz.pinned (OpenSpec.ofChange fracsTextsSpec)

/-- ITS FALSE NEIGHBOUR: 'it returns false'. Refute it at one input. -/
def fracsTextsWrong : ChangeSpec := { name := "fracsTexts", fn := fun _ => fun
  | [d] => { results := [.lit (.bool false)], args := [d] }
  | _ => none }
def FracsTextsWrongFalsely : Prop := fracsTextsRow.holds Tryz.pinned (OpenSpec.ofChange fracsTextsWrong)

/-- 'gussetlaw03.FracsSums': WHATEVER THE INPUT: true; the input reads as it did. -/
def fracsSumsSpec : ChangeSpec := { name := "fracsSums", fn := fun _ => fun
  | [d1, d2] => { results := [.lit (.bool true)], args := [d1, d2] }
  | _ => none }
def fracsSumsRow : OpenClaim := { program := "ytpcfncbcpknobaagreatdoor", sum := "c7b958e0c4d7f020b1b538f3e1e423e9ff13f387d6d4103072c2ba0e3e1033f2", func := "gusset/gussetlaw03.FracsSums", spec := "fracsSums", inPlace := ["math/bits.Add64", "internal/abi.NoEscape", "internal/bytealg.MakeNoZero", "internal/bytealg.IndexByteString", "internal/bytealg.IndexString"], unfollowed := true, recurses := true, named := ["math/bits.overflowError", "internal/strconv.uint64pow10", "math/bits.deBruijn32tab", "math/bits.deBruijn64tab", "internal/bytealg.MaxLen"], apart := false, laid := [("math/bits.deBruijn32tab", laid_math_bits_deBruijn32tab), ("math/bits.deBruijn64tab", laid_math_bits_deBruijn64tab), ("internal/strconv.uint64pow10", laid_internal_strconv_uint64pow10)] }
def FracsSumsSaid : Prop := fracsSumsRow.holds Tryz.pinned (OpenSpec.ofChange fracsSumsSpec)

/-- ITS FALSE NEIGHBOUR: 'it returns false'. Refute it at one input. -/
def fracsSumsWrong : ChangeSpec := { name := "fracsSums", fn := fun _ => fun
  | [d1, d2] => { results := [.lit (.bool false)], args := [d1, d2] }
  | _ => none }
def FracsSumsWrongFalsely : Prop := fracsSumsRow.holds Tryz.pinned (OpenSpec.ofChange fracsSumsWrong)

/-- 'gussetlaw03.FracsField': WHATEVER THE INPUT: true; the input reads as it did. -/
def fracsFieldSpec : ChangeSpec := { name := "fracsField", fn := fun _ => fun
  | [d1, d2, d3] => { results := [.lit (.bool true)], args := [d1, d2, d3] }
  | _ => none }
def fracsFieldRow : OpenClaim := { program := "ytpcfncbcpknobaagreatdoor", sum := "c7b958e0c4d7f020b1b538f3e1e423e9ff13f387d6d4103072c2ba0e3e1033f2", func := "gusset/gussetlaw03.FracsField", spec := "fracsField", inPlace := ["math/bits.Add64", "internal/abi.NoEscape", "internal/bytealg.MakeNoZero", "internal/bytealg.IndexByteString", "internal/bytealg.IndexString"], unfollowed := true, recurses := true, named := ["math/bits.overflowError", "internal/strconv.uint64pow10", "math/bits.deBruijn32tab", "math/bits.deBruijn64tab", "internal/bytealg.MaxLen"], apart := false, laid := [("math/bits.deBruijn32tab", laid_math_bits_deBruijn32tab), ("math/bits.deBruijn64tab", laid_math_bits_deBruijn64tab), ("internal/strconv.uint64pow10", laid_internal_strconv_uint64pow10)] }
def FracsFieldSaid : Prop := fracsFieldRow.holds Tryz.pinned (OpenSpec.ofChange fracsFieldSpec)

/-- ITS FALSE NEIGHBOUR: 'it returns false'. Refute it at one input. -/
def fracsFieldWrong : ChangeSpec := { name := "fracsField", fn := fun _ => fun
  | [d1, d2, d3] => { results := [.lit (.bool false)], args := [d1, d2, d3] }
  | _ => none }
def FracsFieldWrongFalsely : Prop := fracsFieldRow.holds Tryz.pinned (OpenSpec.ofChange fracsFieldWrong)

/-- 'gussetlaw03.FracsLowest': WHATEVER THE INPUT: true; the input reads as it did. -/
def fracsLowestSpec : ChangeSpec := { name := "fracsLowest", fn := fun _ => fun
  | [d1, d2] => { results := [.lit (.bool true)], args := [d1, d2] }
  | _ => none }
def fracsLowestRow : OpenClaim := { program := "ytpcfncbcpknobaagreatdoor", sum := "c7b958e0c4d7f020b1b538f3e1e423e9ff13f387d6d4103072c2ba0e3e1033f2", func := "gusset/gussetlaw03.FracsLowest", spec := "fracsLowest", inPlace := ["math/bits.Add64", "internal/abi.NoEscape", "internal/bytealg.MakeNoZero", "internal/bytealg.IndexByteString", "internal/bytealg.IndexString"], unfollowed := true, recurses := true, named := ["math/bits.overflowError", "internal/strconv.uint64pow10", "math/bits.deBruijn32tab", "math/bits.deBruijn64tab", "internal/bytealg.MaxLen"], apart := false, laid := [("math/bits.deBruijn32tab", laid_math_bits_deBruijn32tab), ("math/bits.deBruijn64tab", laid_math_bits_deBruijn64tab), ("internal/strconv.uint64pow10", laid_internal_strconv_uint64pow10)] }
def FracsLowestSaid : Prop := fracsLowestRow.holds Tryz.pinned (OpenSpec.ofChange fracsLowestSpec)

/-- ITS FALSE NEIGHBOUR: 'it returns false'. Refute it at one input. -/
def fracsLowestWrong : ChangeSpec := { name := "fracsLowest", fn := fun _ => fun
  | [d1, d2] => { results := [.lit (.bool false)], args := [d1, d2] }
  | _ => none }
def FracsLowestWrongFalsely : Prop := fracsLowestRow.holds Tryz.pinned (OpenSpec.ofChange fracsLowestWrong)

/-- 'gussetlaw03.FracsLists': WHATEVER THE INPUT: true; the input reads as it did. -/
def fracsListsSpec : ChangeSpec := { name := "fracsLists", fn := fun _ => fun
  | [d1, d2] => { results := [.lit (.bool true)], args := [d1, d2] }
  | _ => none }
def fracsListsRow : OpenClaim := { program := "ytpcfncbcpknobaagreatdoor", sum := "c7b958e0c4d7f020b1b538f3e1e423e9ff13f387d6d4103072c2ba0e3e1033f2", func := "gusset/gussetlaw03.FracsLists", spec := "fracsLists", inPlace := ["math/bits.Add64", "internal/abi.NoEscape", "internal/bytealg.MakeNoZero", "internal/bytealg.IndexByteString", "internal/bytealg.IndexString"], unfollowed := true, recurses := true, named := ["math/bits.overflowError", "internal/strconv.uint64pow10", "math/bits.deBruijn32tab", "math/bits.deBruijn64tab", "internal/bytealg.MaxLen"], apart := false, laid := [("math/bits.deBruijn32tab", laid_math_bits_deBruijn32tab), ("math/bits.deBruijn64tab", laid_math_bits_deBruijn64tab), ("internal/strconv.uint64pow10", laid_internal_strconv_uint64pow10)] }
def FracsListsSaid : Prop := fracsListsRow.holds Tryz.pinned (OpenSpec.ofChange fracsListsSpec)

/-- ITS FALSE NEIGHBOUR: 'it returns false'. Refute it at one input. -/
def fracsListsWrong : ChangeSpec := { name := "fracsLists", fn := fun _ => fun
  | [d1, d2] => { results := [.lit (.bool false)], args := [d1, d2] }
  | _ => none }
def FracsListsWrongFalsely : Prop := fracsListsRow.holds Tryz.pinned (OpenSpec.ofChange fracsListsWrong)

/-- 'gussetlaw03.FracsSmall': WHATEVER THE INPUT: true; the input reads as it did. -/
def fracsSmallSpec : ChangeSpec := { name := "fracsSmall", fn := fun _ => fun
  | [d1, d2] => { results := [.lit (.bool true)], args := [d1, d2] }
  | _ => none }
def fracsSmallRow : OpenClaim := { program := "ytpcfncbcpknobaagreatdoor", sum := "c7b958e0c4d7f020b1b538f3e1e423e9ff13f387d6d4103072c2ba0e3e1033f2", func := "gusset/gussetlaw03.FracsSmall", spec := "fracsSmall", inPlace := ["math/bits.Add64", "internal/abi.NoEscape", "internal/bytealg.MakeNoZero", "internal/bytealg.IndexByteString", "internal/bytealg.IndexString"], unfollowed := true, recurses := true, named := ["math/bits.overflowError", "internal/strconv.uint64pow10", "math/bits.deBruijn32tab", "math/bits.deBruijn64tab", "internal/bytealg.MaxLen"], apart := false, laid := [("math/bits.deBruijn32tab", laid_math_bits_deBruijn32tab), ("math/bits.deBruijn64tab", laid_math_bits_deBruijn64tab), ("internal/strconv.uint64pow10", laid_internal_strconv_uint64pow10)] }
def FracsSmallSaid : Prop := fracsSmallRow.holds Tryz.pinned (OpenSpec.ofChange fracsSmallSpec)

/-- ITS FALSE NEIGHBOUR: 'it returns false'. Refute it at one input. -/
def fracsSmallWrong : ChangeSpec := { name := "fracsSmall", fn := fun _ => fun
  | [d1, d2] => { results := [.lit (.bool false)], args := [d1, d2] }
  | _ => none }
def FracsSmallWrongFalsely : Prop := fracsSmallRow.holds Tryz.pinned (OpenSpec.ofChange fracsSmallWrong)

/- THE SECOND FORM. 'bulk': how many values and letters a reading holds, each counted each time it is reached (what is shared counts as often as it is met; a slice's spare places count too). A statement '..UptoSaid' is the law's where the arguments, and the package variables that the reading takes, are together of bulk at most 1048576: NARROWER than '..Said'. Prove '..Said' where nothing that the law and all that it calls make is longer than what came in: it says more and counts as full. Else prove '..UptoSaid'. A law counts once. -/
mutual
def uptoBulk {H : Type} : DataW H → Nat
  | .lit (.string bytes) => bytes.length + 1
  | .lit _ => 1
  | .nil => 1
  | .ptr d => uptoBulk d + 1
  | .slice elems spare => uptoBulkAll elems + uptoBulkAll spare + 1
  | .agg parts => uptoBulkAll parts + 1
  | .iface _ d => uptoBulk d + 1
  | .map entries => uptoBulkEntries entries + 1
  | .held _ => 1
def uptoBulkAll {H : Type} : List (DataW H) → Nat
  | [] => 0
  | d :: r => uptoBulk d + uptoBulkAll r
def uptoBulkEntries {H : Type} : List (Lit × DataW H) → Nat
  | [] => 0
  | x :: r => uptoBulkEntry x + uptoBulkEntries r
def uptoBulkEntry {H : Type} : Lit × DataW H → Nat
  | (.string bytes, d) => bytes.length + uptoBulk d + 1
  | (_, d) => uptoBulk d + 1
 end
def uptoSmall : (H : Type) → List (DataW H) → Bool := fun _ ds => decide (uptoBulkAll ds ≤ 1048576)
def OpenSpec.upto (s : _root_.Go.ChangeSpec) : _root_.Go.OpenSpec := { _root_.Go.OpenSpec.ofChange s with cond := some uptoSmall }

/-- 'gussetlaw02.IntsKnown', WHERE WHAT IT READS IS OF BULK AT MOST 1048576: true; the input reads as it did. -/
def intsKnownUptoRow : OpenClaim := { program := "ytpcfncbcpknobaagreatdoor", sum := "c7b958e0c4d7f020b1b538f3e1e423e9ff13f387d6d4103072c2ba0e3e1033f2", func := "gusset/gussetlaw02.IntsKnown", spec := "intsKnown", inPlace := ["math/bits.Add64", "internal/abi.NoEscape", "internal/bytealg.MakeNoZero"], unfollowed := true, recurses := true, named := ["math/bits.overflowError", "internal/strconv.uint64pow10", "math/bits.deBruijn32tab", "math/bits.deBruijn64tab"], apart := false, laid := [("math/bits.deBruijn32tab", laid_math_bits_deBruijn32tab), ("math/bits.deBruijn64tab", laid_math_bits_deBruijn64tab), ("internal/strconv.uint64pow10", laid_internal_strconv_uint64pow10)], narrowed := true }
def IntsKnownUptoSaid : Prop := intsKnownUptoRow.holds Tryz.pinned (OpenSpec.upto intsKnownSpec)

/-- 'gussetlaw23.PointsCut', WHERE WHAT IT READS IS OF BULK AT MOST 1048576: true; the input reads as it did. -/
def pointsCutUptoRow : OpenClaim := { program := "ytpcfncbcpknobaagreatdoor", sum := "c7b958e0c4d7f020b1b538f3e1e423e9ff13f387d6d4103072c2ba0e3e1033f2", func := "gusset/gussetlaw23.PointsCut", spec := "pointsCut", inPlace := ["math/bits.Add64", "internal/abi.NoEscape", "internal/bytealg.MakeNoZero"], unfollowed := true, recurses := true, named := ["math/bits.overflowError", "internal/strconv.uint64pow10", "math/bits.deBruijn32tab", "math/bits.deBruijn64tab"], apart := false, laid := [("math/bits.deBruijn32tab", laid_math_bits_deBruijn32tab), ("math/bits.deBruijn64tab", laid_math_bits_deBruijn64tab), ("internal/strconv.uint64pow10", laid_internal_strconv_uint64pow10)], narrowed := true }
def PointsCutUptoSaid : Prop := pointsCutUptoRow.holds Tryz.pinned (OpenSpec.upto pointsCutSpec)

/-- 'gussetlaw23.PointsOps', WHERE WHAT IT READS IS OF BULK AT MOST 1048576: true; the input reads as it did. -/
def pointsOpsUptoRow : OpenClaim := { program := "ytpcfncbcpknobaagreatdoor", sum := "c7b958e0c4d7f020b1b538f3e1e423e9ff13f387d6d4103072c2ba0e3e1033f2", func := "gusset/gussetlaw23.PointsOps", spec := "pointsOps", inPlace := ["math/bits.Add64", "internal/abi.NoEscape", "internal/bytealg.MakeNoZero"], unfollowed := true, recurses := true, named := ["math/bits.overflowError", "internal/strconv.uint64pow10", "math/bits.deBruijn32tab", "math/bits.deBruijn64tab"], apart := false, laid := [("math/bits.deBruijn32tab", laid_math_bits_deBruijn32tab), ("math/bits.deBruijn64tab", laid_math_bits_deBruijn64tab), ("internal/strconv.uint64pow10", laid_internal_strconv_uint64pow10)], narrowed := true }
def PointsOpsUptoSaid : Prop := pointsOpsUptoRow.holds Tryz.pinned (OpenSpec.upto pointsOpsSpec)

/-- 'gussetlaw03.FracsReads', WHERE WHAT IT READS IS OF BULK AT MOST 1048576: true; the input reads as it did. -/
def fracsReadsUptoRow : OpenClaim := { program := "ytpcfncbcpknobaagreatdoor", sum := "c7b958e0c4d7f020b1b538f3e1e423e9ff13f387d6d4103072c2ba0e3e1033f2", func := "gusset/gussetlaw03.FracsReads", spec := "fracsReads", inPlace := ["math/bits.Add64", "internal/abi.NoEscape", "internal/bytealg.MakeNoZero", "internal/bytealg.IndexByteString", "internal/bytealg.IndexString"], unfollowed := true, recurses := true, named := ["math/bits.overflowError", "internal/strconv.uint64pow10", "math/bits.deBruijn32tab", "math/bits.deBruijn64tab", "internal/bytealg.MaxLen"], apart := false, laid := [("math/bits.deBruijn32tab", laid_math_bits_deBruijn32tab), ("math/bits.deBruijn64tab", laid_math_bits_deBruijn64tab), ("internal/strconv.uint64pow10", laid_internal_strconv_uint64pow10)], narrowed := true }
def FracsReadsUptoSaid : Prop := fracsReadsUptoRow.holds Tryz.pinned (OpenSpec.upto fracsReadsSpec)

/-- 'gussetlaw03.FracsFloors', WHERE WHAT IT READS IS OF BULK AT MOST 1048576: true; the input reads as it did. -/
def fracsFloorsUptoRow : OpenClaim := { program := "ytpcfncbcpknobaagreatdoor", sum := "c7b958e0c4d7f020b1b538f3e1e423e9ff13f387d6d4103072c2ba0e3e1033f2", func := "gusset/gussetlaw03.FracsFloors", spec := "fracsFloors", inPlace := ["math/bits.Add64", "internal/abi.NoEscape", "internal/bytealg.MakeNoZero", "internal/bytealg.IndexByteString", "internal/bytealg.IndexString"], unfollowed := true, recurses := true, named := ["math/bits.overflowError", "internal/strconv.uint64pow10", "math/bits.deBruijn32tab", "math/bits.deBruijn64tab", "internal/bytealg.MaxLen"], apart := false, laid := [("math/bits.deBruijn32tab", laid_math_bits_deBruijn32tab), ("math/bits.deBruijn64tab", laid_math_bits_deBruijn64tab), ("internal/strconv.uint64pow10", laid_internal_strconv_uint64pow10)], narrowed := true }
def FracsFloorsUptoSaid : Prop := fracsFloorsUptoRow.holds Tryz.pinned (OpenSpec.upto fracsFloorsSpec)

/-- 'gussetlaw03.FracsTexts', WHERE WHAT IT READS IS OF BULK AT MOST 1048576: true; the input reads as it did. -/
def fracsTextsUptoRow : OpenClaim := { program := "ytpcfncbcpknobaagreatdoor", sum := "c7b958e0c4d7f020b1b538f3e1e423e9ff13f387d6d4103072c2ba0e3e1033f2", func := "gusset/gussetlaw03.FracsTexts", spec := "fracsTexts", inPlace := ["math/bits.Add64", "internal/abi.NoEscape", "internal/bytealg.MakeNoZero", "internal/bytealg.IndexByteString", "internal/bytealg.IndexString"], unfollowed := true, recurses := true, named := ["math/bits.overflowError", "internal/strconv.uint64pow10", "math/bits.deBruijn32tab", "math/bits.deBruijn64tab", "internal/bytealg.MaxLen"], apart := false, laid := [("math/bits.deBruijn32tab", laid_math_bits_deBruijn32tab), ("math/bits.deBruijn64tab", laid_math_bits_deBruijn64tab), ("internal/strconv.uint64pow10", laid_internal_strconv_uint64pow10)], narrowed := true }
def FracsTextsUptoSaid : Prop := fracsTextsUptoRow.holds Tryz.pinned (OpenSpec.upto fracsTextsSpec)

/-- 'gussetlaw03.FracsSums', WHERE WHAT IT READS IS OF BULK AT MOST 1048576: true; the input reads as it did. -/
def fracsSumsUptoRow : OpenClaim := { program := "ytpcfncbcpknobaagreatdoor", sum := "c7b958e0c4d7f020b1b538f3e1e423e9ff13f387d6d4103072c2ba0e3e1033f2", func := "gusset/gussetlaw03.FracsSums", spec := "fracsSums", inPlace := ["math/bits.Add64", "internal/abi.NoEscape", "internal/bytealg.MakeNoZero", "internal/bytealg.IndexByteString", "internal/bytealg.IndexString"], unfollowed := true, recurses := true, named := ["math/bits.overflowError", "internal/strconv.uint64pow10", "math/bits.deBruijn32tab", "math/bits.deBruijn64tab", "internal/bytealg.MaxLen"], apart := false, laid := [("math/bits.deBruijn32tab", laid_math_bits_deBruijn32tab), ("math/bits.deBruijn64tab", laid_math_bits_deBruijn64tab), ("internal/strconv.uint64pow10", laid_internal_strconv_uint64pow10)], narrowed := true }
def FracsSumsUptoSaid : Prop := fracsSumsUptoRow.holds Tryz.pinned (OpenSpec.upto fracsSumsSpec)

/-- 'gussetlaw03.FracsField', WHERE WHAT IT READS IS OF BULK AT MOST 1048576: true; the input reads as it did. -/
def fracsFieldUptoRow : OpenClaim := { program := "ytpcfncbcpknobaagreatdoor", sum := "c7b958e0c4d7f020b1b538f3e1e423e9ff13f387d6d4103072c2ba0e3e1033f2", func := "gusset/gussetlaw03.FracsField", spec := "fracsField", inPlace := ["math/bits.Add64", "internal/abi.NoEscape", "internal/bytealg.MakeNoZero", "internal/bytealg.IndexByteString", "internal/bytealg.IndexString"], unfollowed := true, recurses := true, named := ["math/bits.overflowError", "internal/strconv.uint64pow10", "math/bits.deBruijn32tab", "math/bits.deBruijn64tab", "internal/bytealg.MaxLen"], apart := false, laid := [("math/bits.deBruijn32tab", laid_math_bits_deBruijn32tab), ("math/bits.deBruijn64tab", laid_math_bits_deBruijn64tab), ("internal/strconv.uint64pow10", laid_internal_strconv_uint64pow10)], narrowed := true }
def FracsFieldUptoSaid : Prop := fracsFieldUptoRow.holds Tryz.pinned (OpenSpec.upto fracsFieldSpec)

/-- 'gussetlaw03.FracsLowest', WHERE WHAT IT READS IS OF BULK AT MOST 1048576: true; the input reads as it did. -/
def fracsLowestUptoRow : OpenClaim := { program := "ytpcfncbcpknobaagreatdoor", sum := "c7b958e0c4d7f020b1b538f3e1e423e9ff13f387d6d4103072c2ba0e3e1033f2", func := "gusset/gussetlaw03.FracsLowest", spec := "fracsLowest", inPlace := ["math/bits.Add64", "internal/abi.NoEscape", "internal/bytealg.MakeNoZero", "internal/bytealg.IndexByteString", "internal/bytealg.IndexString"], unfollowed := true, recurses := true, named := ["math/bits.overflowError", "internal/strconv.uint64pow10", "math/bits.deBruijn32tab", "math/bits.deBruijn64tab", "internal/bytealg.MaxLen"], apart := false, laid := [("math/bits.deBruijn32tab", laid_math_bits_deBruijn32tab), ("math/bits.deBruijn64tab", laid_math_bits_deBruijn64tab), ("internal/strconv.uint64pow10", laid_internal_strconv_uint64pow10)], narrowed := true }
def FracsLowestUptoSaid : Prop := fracsLowestUptoRow.holds Tryz.pinned (OpenSpec.upto fracsLowestSpec)

/-- 'gussetlaw03.FracsLists', WHERE WHAT IT READS IS OF BULK AT MOST 1048576: true; the input reads as it did. -/
def fracsListsUptoRow : OpenClaim := { program := "ytpcfncbcpknobaagreatdoor", sum := "c7b958e0c4d7f020b1b538f3e1e423e9ff13f387d6d4103072c2ba0e3e1033f2", func := "gusset/gussetlaw03.FracsLists", spec := "fracsLists", inPlace := ["math/bits.Add64", "internal/abi.NoEscape", "internal/bytealg.MakeNoZero", "internal/bytealg.IndexByteString", "internal/bytealg.IndexString"], unfollowed := true, recurses := true, named := ["math/bits.overflowError", "internal/strconv.uint64pow10", "math/bits.deBruijn32tab", "math/bits.deBruijn64tab", "internal/bytealg.MaxLen"], apart := false, laid := [("math/bits.deBruijn32tab", laid_math_bits_deBruijn32tab), ("math/bits.deBruijn64tab", laid_math_bits_deBruijn64tab), ("internal/strconv.uint64pow10", laid_internal_strconv_uint64pow10)], narrowed := true }
def FracsListsUptoSaid : Prop := fracsListsUptoRow.holds Tryz.pinned (OpenSpec.upto fracsListsSpec)

/-- 'gussetlaw03.FracsSmall', WHERE WHAT IT READS IS OF BULK AT MOST 1048576: true; the input reads as it did. -/
def fracsSmallUptoRow : OpenClaim := { program := "ytpcfncbcpknobaagreatdoor", sum := "c7b958e0c4d7f020b1b538f3e1e423e9ff13f387d6d4103072c2ba0e3e1033f2", func := "gusset/gussetlaw03.FracsSmall", spec := "fracsSmall", inPlace := ["math/bits.Add64", "internal/abi.NoEscape", "internal/bytealg.MakeNoZero", "internal/bytealg.IndexByteString", "internal/bytealg.IndexString"], unfollowed := true, recurses := true, named := ["math/bits.overflowError", "internal/strconv.uint64pow10", "math/bits.deBruijn32tab", "math/bits.deBruijn64tab", "internal/bytealg.MaxLen"], apart := false, laid := [("math/bits.deBruijn32tab", laid_math_bits_deBruijn32tab), ("math/bits.deBruijn64tab", laid_math_bits_deBruijn64tab), ("internal/strconv.uint64pow10", laid_internal_strconv_uint64pow10)], narrowed := true }
def FracsSmallUptoSaid : Prop := fracsSmallUptoRow.holds Tryz.pinned (OpenSpec.upto fracsSmallSpec)

end Rows
end Go.Proofs.YtpcfncbcpknobaaGreatDoor
