/-
  NARROWER THAN 'FOR EVERY INPUT', by the rows' own cells (each row's printed sentence says how): PointsCut: laid · ReconsBack: laid · ReconsChinese: laid · ReconsThere: laid · ReconsJoins: laid · ReconsOne: laid · ReconsFits: laid · ReconsPrimes: laid · ReconsKnown: laid · FracsKnown: laid · DecimalsReads: laid · DecimalsCycle: laid · DecimalsKnown: laid.
  DERIVED. THE GIVEN ROWS OF THIS SEAT. 13 by the template 'for every input the law returns true; each argument reads behind the call as it read before'; 0 by the template 'total and deterministic' (their statements: YtobojnodohjiaaaGreatDoorTotals.lean).
  GIVEN WITH THE SEED: the statements are not yours to turn. If you find one false, say at which input.
  Laid BY PROGRAM, IN A SANDBOX (cutbox-rows.mjs): the forced cells as the released guide's own fill.sh prints them over the translation ec37c27a6ba916a9… (all of the seat's roots in one cut). By AI agents, Wed Nov 11 2026. No macro, syntax, notation, axiom, sorry.
-/
import Derived.Test.YtobojnodohjiaaaGreatDoorChecked
import GoSem.Claim
import GoSem.ClaimJoined
import GoSem.ClaimMapViews
import Derived.JoinedTies
import Derived.KernelRfl
namespace Go.Proofs.YtobojnodohjiaaaGreatDoor
/- THE CELL 'sum', in the pinned program and in every row, IS THE sha256 OF THE DUMP (.gsa) THAT YtobojnodohjiaaaGreatDoorProg.lean LOADS. Nothing in Lean hashes anything: it is a label: what it is worth is what the hold of that sum in a sandbox is worth. -/
noncomputable def Tryz.pinned : Pinned := { name := "ytobojnodohjiaaagreatdoor", sum := "ec37c27a6ba916a9d036ba6f768bc016d7744866ce2a4b7c0ca085b24e4d9769", checked := Tryz.checked }
namespace Rows
def none {H : Type} : Left H := { results := [], args := [] }

/- WHAT THE LISTED PACKAGE-LEVEL VARIABLES READ AS WHEN THE CALL BEGINS. Each datum BY PROGRAM (the guide's laid-datum.mjs) off the statement by which the dump's own 'gosem.cut.vars' lays the variable. In a bare row this is a premise. The card (YtobojnodohjiaaaGreatDoorCards.lean) ties it to the program's text. -/
def laid_math_bits_deBruijn32tab {H : Type} : DataW H := .agg [.lit (.int .u8 0), .lit (.int .u8 1), .lit (.int .u8 28), .lit (.int .u8 2), .lit (.int .u8 29), .lit (.int .u8 14), .lit (.int .u8 24), .lit (.int .u8 3), .lit (.int .u8 30), .lit (.int .u8 22), .lit (.int .u8 20), .lit (.int .u8 15), .lit (.int .u8 25), .lit (.int .u8 17), .lit (.int .u8 4), .lit (.int .u8 8), .lit (.int .u8 31), .lit (.int .u8 27), .lit (.int .u8 13), .lit (.int .u8 23), .lit (.int .u8 21), .lit (.int .u8 19), .lit (.int .u8 16), .lit (.int .u8 7), .lit (.int .u8 26), .lit (.int .u8 12), .lit (.int .u8 18), .lit (.int .u8 6), .lit (.int .u8 11), .lit (.int .u8 5), .lit (.int .u8 10), .lit (.int .u8 9)]
def laid_math_bits_deBruijn64tab {H : Type} : DataW H := .agg [.lit (.int .u8 0), .lit (.int .u8 1), .lit (.int .u8 56), .lit (.int .u8 2), .lit (.int .u8 57), .lit (.int .u8 49), .lit (.int .u8 28), .lit (.int .u8 3), .lit (.int .u8 61), .lit (.int .u8 58), .lit (.int .u8 42), .lit (.int .u8 50), .lit (.int .u8 38), .lit (.int .u8 29), .lit (.int .u8 17), .lit (.int .u8 4), .lit (.int .u8 62), .lit (.int .u8 47), .lit (.int .u8 59), .lit (.int .u8 36), .lit (.int .u8 45), .lit (.int .u8 43), .lit (.int .u8 51), .lit (.int .u8 22), .lit (.int .u8 53), .lit (.int .u8 39), .lit (.int .u8 33), .lit (.int .u8 30), .lit (.int .u8 24), .lit (.int .u8 18), .lit (.int .u8 12), .lit (.int .u8 5), .lit (.int .u8 63), .lit (.int .u8 55), .lit (.int .u8 48), .lit (.int .u8 27), .lit (.int .u8 60), .lit (.int .u8 41), .lit (.int .u8 37), .lit (.int .u8 16), .lit (.int .u8 46), .lit (.int .u8 35), .lit (.int .u8 44), .lit (.int .u8 21), .lit (.int .u8 52), .lit (.int .u8 32), .lit (.int .u8 23), .lit (.int .u8 11), .lit (.int .u8 54), .lit (.int .u8 26), .lit (.int .u8 40), .lit (.int .u8 15), .lit (.int .u8 34), .lit (.int .u8 20), .lit (.int .u8 31), .lit (.int .u8 10), .lit (.int .u8 25), .lit (.int .u8 14), .lit (.int .u8 19), .lit (.int .u8 9), .lit (.int .u8 13), .lit (.int .u8 8), .lit (.int .u8 7), .lit (.int .u8 6)]
def laid_internal_strconv_uint64pow10 {H : Type} : DataW H := .agg [.lit (.int .u64 1), .lit (.int .u64 10), .lit (.int .u64 100), .lit (.int .u64 1000), .lit (.int .u64 10000), .lit (.int .u64 100000), .lit (.int .u64 1000000), .lit (.int .u64 10000000), .lit (.int .u64 100000000), .lit (.int .u64 1000000000), .lit (.int .u64 10000000000), .lit (.int .u64 100000000000), .lit (.int .u64 1000000000000), .lit (.int .u64 10000000000000), .lit (.int .u64 100000000000000), .lit (.int .u64 1000000000000000), .lit (.int .u64 10000000000000000), .lit (.int .u64 100000000000000000), .lit (.int .u64 1000000000000000000), .lit (.int .u64 10000000000000000000)]

/-- 'gussetlaw23.PointsCut': WHATEVER THE INPUT: true; the input reads as it did. -/
def pointsCutSpec : ChangeSpec := { name := "pointsCut", fn := fun _ => fun
  | [d] => { results := [.lit (.bool true)], args := [d] }
  | _ => none }
def pointsCutRow : OpenClaim := { program := "ytobojnodohjiaaagreatdoor", sum := "ec37c27a6ba916a9d036ba6f768bc016d7744866ce2a4b7c0ca085b24e4d9769", func := "gusset/gussetlaw23.PointsCut", spec := "pointsCut", inPlace := ["math/bits.Add64", "internal/abi.NoEscape", "internal/bytealg.MakeNoZero"], unfollowed := true, recurses := true, named := ["math/bits.overflowError", "internal/strconv.uint64pow10", "math/bits.deBruijn32tab", "math/bits.deBruijn64tab"], apart := false, laid := [("math/bits.deBruijn32tab", laid_math_bits_deBruijn32tab), ("math/bits.deBruijn64tab", laid_math_bits_deBruijn64tab), ("internal/strconv.uint64pow10", laid_internal_strconv_uint64pow10)] }
def PointsCutSaid : Prop := pointsCutRow.holds Tryz.pinned (OpenSpec.ofChange pointsCutSpec)

/-- ITS FALSE NEIGHBOUR: 'it returns false'. Refute it at one input. -/
def pointsCutWrong : ChangeSpec := { name := "pointsCut", fn := fun _ => fun
  | [d] => { results := [.lit (.bool false)], args := [d] }
  | _ => none }
def PointsCutWrongFalsely : Prop := pointsCutRow.holds Tryz.pinned (OpenSpec.ofChange pointsCutWrong)

/-- 'gussetlaw07.ReconsBack': WHATEVER THE INPUT: true; the input reads as it did. -/
def reconsBackSpec : ChangeSpec := { name := "reconsBack", fn := fun _ => fun
  | [d1, d2] => { results := [.lit (.bool true)], args := [d1, d2] }
  | _ => none }
def reconsBackRow : OpenClaim := { program := "ytobojnodohjiaaagreatdoor", sum := "ec37c27a6ba916a9d036ba6f768bc016d7744866ce2a4b7c0ca085b24e4d9769", func := "gusset/gussetlaw07.ReconsBack", spec := "reconsBack", inPlace := ["math/bits.Add64", "internal/abi.NoEscape", "internal/bytealg.MakeNoZero"], unfollowed := true, recurses := true, named := ["math/bits.overflowError", "internal/strconv.uint64pow10", "math/bits.deBruijn32tab", "math/bits.deBruijn64tab"], apart := false, laid := [("math/bits.deBruijn32tab", laid_math_bits_deBruijn32tab), ("math/bits.deBruijn64tab", laid_math_bits_deBruijn64tab), ("internal/strconv.uint64pow10", laid_internal_strconv_uint64pow10)] }
def ReconsBackSaid : Prop := reconsBackRow.holds Tryz.pinned (OpenSpec.ofChange reconsBackSpec)

/-- ITS FALSE NEIGHBOUR: 'it returns false'. Refute it at one input. -/
def reconsBackWrong : ChangeSpec := { name := "reconsBack", fn := fun _ => fun
  | [d1, d2] => { results := [.lit (.bool false)], args := [d1, d2] }
  | _ => none }
def ReconsBackWrongFalsely : Prop := reconsBackRow.holds Tryz.pinned (OpenSpec.ofChange reconsBackWrong)

/-- 'gussetlaw07.ReconsChinese': WHATEVER THE INPUT: true; the input reads as it did. -/
def reconsChineseSpec : ChangeSpec := { name := "reconsChinese", fn := fun _ => fun
  | [d] => { results := [.lit (.bool true)], args := [d] }
  | _ => none }
def reconsChineseRow : OpenClaim := { program := "ytobojnodohjiaaagreatdoor", sum := "ec37c27a6ba916a9d036ba6f768bc016d7744866ce2a4b7c0ca085b24e4d9769", func := "gusset/gussetlaw07.ReconsChinese", spec := "reconsChinese", inPlace := ["math/bits.Add64", "internal/abi.NoEscape", "internal/bytealg.MakeNoZero"], unfollowed := true, recurses := true, named := ["math/bits.overflowError", "internal/strconv.uint64pow10", "math/bits.deBruijn32tab", "math/bits.deBruijn64tab"], apart := false, laid := [("math/bits.deBruijn32tab", laid_math_bits_deBruijn32tab), ("math/bits.deBruijn64tab", laid_math_bits_deBruijn64tab), ("internal/strconv.uint64pow10", laid_internal_strconv_uint64pow10)] }
def ReconsChineseSaid : Prop := reconsChineseRow.holds Tryz.pinned (OpenSpec.ofChange reconsChineseSpec)

/-- ITS FALSE NEIGHBOUR: 'it returns false'. Refute it at one input. -/
def reconsChineseWrong : ChangeSpec := { name := "reconsChinese", fn := fun _ => fun
  | [d] => { results := [.lit (.bool false)], args := [d] }
  | _ => none }
def ReconsChineseWrongFalsely : Prop := reconsChineseRow.holds Tryz.pinned (OpenSpec.ofChange reconsChineseWrong)

/-- 'gussetlaw07.ReconsThere': WHATEVER THE INPUT: true; the input reads as it did. -/
def reconsThereSpec : ChangeSpec := { name := "reconsThere", fn := fun _ => fun
  | [d1, d2, d3] => { results := [.lit (.bool true)], args := [d1, d2, d3] }
  | _ => none }
def reconsThereRow : OpenClaim := { program := "ytobojnodohjiaaagreatdoor", sum := "ec37c27a6ba916a9d036ba6f768bc016d7744866ce2a4b7c0ca085b24e4d9769", func := "gusset/gussetlaw07.ReconsThere", spec := "reconsThere", inPlace := ["math/bits.Add64", "internal/abi.NoEscape", "internal/bytealg.MakeNoZero"], unfollowed := true, recurses := true, named := ["math/bits.overflowError", "internal/strconv.uint64pow10", "math/bits.deBruijn32tab", "math/bits.deBruijn64tab"], apart := false, laid := [("math/bits.deBruijn32tab", laid_math_bits_deBruijn32tab), ("math/bits.deBruijn64tab", laid_math_bits_deBruijn64tab), ("internal/strconv.uint64pow10", laid_internal_strconv_uint64pow10)] }
def ReconsThereSaid : Prop := reconsThereRow.holds Tryz.pinned (OpenSpec.ofChange reconsThereSpec)

/-- ITS FALSE NEIGHBOUR: 'it returns false'. Refute it at one input. -/
def reconsThereWrong : ChangeSpec := { name := "reconsThere", fn := fun _ => fun
  | [d1, d2, d3] => { results := [.lit (.bool false)], args := [d1, d2, d3] }
  | _ => none }
def ReconsThereWrongFalsely : Prop := reconsThereRow.holds Tryz.pinned (OpenSpec.ofChange reconsThereWrong)

/-- 'gussetlaw07.ReconsJoins': WHATEVER THE INPUT: true; the input reads as it did. -/
def reconsJoinsSpec : ChangeSpec := { name := "reconsJoins", fn := fun _ => fun
  | [d1, d2, d3] => { results := [.lit (.bool true)], args := [d1, d2, d3] }
  | _ => none }
def reconsJoinsRow : OpenClaim := { program := "ytobojnodohjiaaagreatdoor", sum := "ec37c27a6ba916a9d036ba6f768bc016d7744866ce2a4b7c0ca085b24e4d9769", func := "gusset/gussetlaw07.ReconsJoins", spec := "reconsJoins", inPlace := ["math/bits.Add64", "internal/abi.NoEscape", "internal/bytealg.MakeNoZero"], unfollowed := true, recurses := true, named := ["math/bits.overflowError", "internal/strconv.uint64pow10", "math/bits.deBruijn32tab", "math/bits.deBruijn64tab"], apart := false, laid := [("math/bits.deBruijn32tab", laid_math_bits_deBruijn32tab), ("math/bits.deBruijn64tab", laid_math_bits_deBruijn64tab), ("internal/strconv.uint64pow10", laid_internal_strconv_uint64pow10)] }
def ReconsJoinsSaid : Prop := reconsJoinsRow.holds Tryz.pinned (OpenSpec.ofChange reconsJoinsSpec)

/-- ITS FALSE NEIGHBOUR: 'it returns false'. Refute it at one input. -/
def reconsJoinsWrong : ChangeSpec := { name := "reconsJoins", fn := fun _ => fun
  | [d1, d2, d3] => { results := [.lit (.bool false)], args := [d1, d2, d3] }
  | _ => none }
def ReconsJoinsWrongFalsely : Prop := reconsJoinsRow.holds Tryz.pinned (OpenSpec.ofChange reconsJoinsWrong)

/-- 'gussetlaw07.ReconsOne': WHATEVER THE INPUT: true; the input reads as it did. -/
def reconsOneSpec : ChangeSpec := { name := "reconsOne", fn := fun _ => fun
  | [d1, d2, d3, d4] => { results := [.lit (.bool true)], args := [d1, d2, d3, d4] }
  | _ => none }
def reconsOneRow : OpenClaim := { program := "ytobojnodohjiaaagreatdoor", sum := "ec37c27a6ba916a9d036ba6f768bc016d7744866ce2a4b7c0ca085b24e4d9769", func := "gusset/gussetlaw07.ReconsOne", spec := "reconsOne", inPlace := ["math/bits.Add64", "internal/abi.NoEscape", "internal/bytealg.MakeNoZero"], unfollowed := true, recurses := true, named := ["math/bits.overflowError", "internal/strconv.uint64pow10", "math/bits.deBruijn32tab", "math/bits.deBruijn64tab"], apart := false, laid := [("math/bits.deBruijn32tab", laid_math_bits_deBruijn32tab), ("math/bits.deBruijn64tab", laid_math_bits_deBruijn64tab), ("internal/strconv.uint64pow10", laid_internal_strconv_uint64pow10)] }
def ReconsOneSaid : Prop := reconsOneRow.holds Tryz.pinned (OpenSpec.ofChange reconsOneSpec)

/-- ITS FALSE NEIGHBOUR: 'it returns false'. Refute it at one input. -/
def reconsOneWrong : ChangeSpec := { name := "reconsOne", fn := fun _ => fun
  | [d1, d2, d3, d4] => { results := [.lit (.bool false)], args := [d1, d2, d3, d4] }
  | _ => none }
def ReconsOneWrongFalsely : Prop := reconsOneRow.holds Tryz.pinned (OpenSpec.ofChange reconsOneWrong)

/-- 'gussetlaw07.ReconsFits': WHATEVER THE INPUT: true; the input reads as it did. -/
def reconsFitsSpec : ChangeSpec := { name := "reconsFits", fn := fun _ => fun
  | [d1, d2, d3, d4] => { results := [.lit (.bool true)], args := [d1, d2, d3, d4] }
  | _ => none }
def reconsFitsRow : OpenClaim := { program := "ytobojnodohjiaaagreatdoor", sum := "ec37c27a6ba916a9d036ba6f768bc016d7744866ce2a4b7c0ca085b24e4d9769", func := "gusset/gussetlaw07.ReconsFits", spec := "reconsFits", inPlace := ["math/bits.Add64", "internal/abi.NoEscape", "internal/bytealg.MakeNoZero"], unfollowed := true, recurses := true, named := ["math/bits.overflowError", "internal/strconv.uint64pow10", "math/bits.deBruijn32tab", "math/bits.deBruijn64tab"], apart := false, laid := [("math/bits.deBruijn32tab", laid_math_bits_deBruijn32tab), ("math/bits.deBruijn64tab", laid_math_bits_deBruijn64tab), ("internal/strconv.uint64pow10", laid_internal_strconv_uint64pow10)] }
def ReconsFitsSaid : Prop := reconsFitsRow.holds Tryz.pinned (OpenSpec.ofChange reconsFitsSpec)

/-- ITS FALSE NEIGHBOUR: 'it returns false'. Refute it at one input. -/
def reconsFitsWrong : ChangeSpec := { name := "reconsFits", fn := fun _ => fun
  | [d1, d2, d3, d4] => { results := [.lit (.bool false)], args := [d1, d2, d3, d4] }
  | _ => none }
def ReconsFitsWrongFalsely : Prop := reconsFitsRow.holds Tryz.pinned (OpenSpec.ofChange reconsFitsWrong)

/-- 'gussetlaw07.ReconsPrimes': WHATEVER THE INPUT: true; the input reads as it did. -/
def reconsPrimesSpec : ChangeSpec := { name := "reconsPrimes", fn := fun _ => fun
  | [d1, d2] => { results := [.lit (.bool true)], args := [d1, d2] }
  | _ => none }
def reconsPrimesRow : OpenClaim := { program := "ytobojnodohjiaaagreatdoor", sum := "ec37c27a6ba916a9d036ba6f768bc016d7744866ce2a4b7c0ca085b24e4d9769", func := "gusset/gussetlaw07.ReconsPrimes", spec := "reconsPrimes", inPlace := ["math/bits.Add64", "internal/abi.NoEscape", "internal/bytealg.MakeNoZero"], unfollowed := true, recurses := true, named := ["math/bits.overflowError", "internal/strconv.uint64pow10", "math/bits.deBruijn32tab", "math/bits.deBruijn64tab"], apart := false, laid := [("math/bits.deBruijn32tab", laid_math_bits_deBruijn32tab), ("math/bits.deBruijn64tab", laid_math_bits_deBruijn64tab), ("internal/strconv.uint64pow10", laid_internal_strconv_uint64pow10)] }
def ReconsPrimesSaid : Prop := reconsPrimesRow.holds Tryz.pinned (OpenSpec.ofChange reconsPrimesSpec)

/-- ITS FALSE NEIGHBOUR: 'it returns false'. Refute it at one input. -/
def reconsPrimesWrong : ChangeSpec := { name := "reconsPrimes", fn := fun _ => fun
  | [d1, d2] => { results := [.lit (.bool false)], args := [d1, d2] }
  | _ => none }
def ReconsPrimesWrongFalsely : Prop := reconsPrimesRow.holds Tryz.pinned (OpenSpec.ofChange reconsPrimesWrong)

/-- 'gussetlaw07.ReconsKnown': WHATEVER THE INPUT: true; the input reads as it did. -/
def reconsKnownSpec : ChangeSpec := { name := "reconsKnown", fn := fun _ => fun
  | [] => { results := [.lit (.bool true)], args := [] }
  | _ => none }
def reconsKnownRow : OpenClaim := { program := "ytobojnodohjiaaagreatdoor", sum := "ec37c27a6ba916a9d036ba6f768bc016d7744866ce2a4b7c0ca085b24e4d9769", func := "gusset/gussetlaw07.ReconsKnown", spec := "reconsKnown", inPlace := ["math/bits.Add64", "internal/abi.NoEscape", "internal/bytealg.MakeNoZero"], unfollowed := true, recurses := true, named := ["math/bits.overflowError", "internal/strconv.uint64pow10", "math/bits.deBruijn32tab", "math/bits.deBruijn64tab"], apart := false, laid := [("math/bits.deBruijn32tab", laid_math_bits_deBruijn32tab), ("math/bits.deBruijn64tab", laid_math_bits_deBruijn64tab), ("internal/strconv.uint64pow10", laid_internal_strconv_uint64pow10)] }
def ReconsKnownSaid : Prop := reconsKnownRow.holds Tryz.pinned (OpenSpec.ofChange reconsKnownSpec)

/-- ITS FALSE NEIGHBOUR: 'it returns false'. Refute it at one input. -/
def reconsKnownWrong : ChangeSpec := { name := "reconsKnown", fn := fun _ => fun
  | [] => { results := [.lit (.bool false)], args := [] }
  | _ => none }
def ReconsKnownWrongFalsely : Prop := reconsKnownRow.holds Tryz.pinned (OpenSpec.ofChange reconsKnownWrong)

/-- 'gussetlaw03.FracsKnown': WHATEVER THE INPUT: true; the input reads as it did. -/
def fracsKnownSpec : ChangeSpec := { name := "fracsKnown", fn := fun _ => fun
  | [] => { results := [.lit (.bool true)], args := [] }
  | _ => none }
def fracsKnownRow : OpenClaim := { program := "ytobojnodohjiaaagreatdoor", sum := "ec37c27a6ba916a9d036ba6f768bc016d7744866ce2a4b7c0ca085b24e4d9769", func := "gusset/gussetlaw03.FracsKnown", spec := "fracsKnown", inPlace := ["math/bits.Add64", "internal/abi.NoEscape", "internal/bytealg.MakeNoZero", "internal/bytealg.IndexByteString", "internal/bytealg.IndexString"], unfollowed := true, recurses := true, named := ["math/bits.overflowError", "internal/strconv.uint64pow10", "math/bits.deBruijn32tab", "math/bits.deBruijn64tab", "internal/bytealg.MaxLen"], apart := false, laid := [("math/bits.deBruijn32tab", laid_math_bits_deBruijn32tab), ("math/bits.deBruijn64tab", laid_math_bits_deBruijn64tab), ("internal/strconv.uint64pow10", laid_internal_strconv_uint64pow10)] }
def FracsKnownSaid : Prop := fracsKnownRow.holds Tryz.pinned (OpenSpec.ofChange fracsKnownSpec)

/-- ITS FALSE NEIGHBOUR: 'it returns false'. Refute it at one input. -/
def fracsKnownWrong : ChangeSpec := { name := "fracsKnown", fn := fun _ => fun
  | [] => { results := [.lit (.bool false)], args := [] }
  | _ => none }
def FracsKnownWrongFalsely : Prop := fracsKnownRow.holds Tryz.pinned (OpenSpec.ofChange fracsKnownWrong)

/-- 'gussetlaw04.DecimalsReads': WHATEVER THE INPUT: true; the input reads as it did. -/
def decimalsReadsSpec : ChangeSpec := { name := "decimalsReads", fn := fun _ => fun
  | [d] => { results := [.lit (.bool true)], args := [d] }
  | _ => none }
def decimalsReadsRow : OpenClaim := { program := "ytobojnodohjiaaagreatdoor", sum := "ec37c27a6ba916a9d036ba6f768bc016d7744866ce2a4b7c0ca085b24e4d9769", func := "gusset/gussetlaw04.DecimalsReads", spec := "decimalsReads", inPlace := ["internal/bytealg.IndexByteString", "internal/bytealg.IndexString", "math/bits.Add64", "internal/abi.NoEscape", "internal/bytealg.MakeNoZero"], unfollowed := true, recurses := true, named := ["internal/bytealg.MaxLen", "math/bits.overflowError", "internal/strconv.uint64pow10", "math/bits.deBruijn32tab", "math/bits.deBruijn64tab"], apart := false, laid := [("math/bits.deBruijn32tab", laid_math_bits_deBruijn32tab), ("math/bits.deBruijn64tab", laid_math_bits_deBruijn64tab), ("internal/strconv.uint64pow10", laid_internal_strconv_uint64pow10)] }
def DecimalsReadsSaid : Prop := decimalsReadsRow.holds Tryz.pinned (OpenSpec.ofChange decimalsReadsSpec)

/-- ITS FALSE NEIGHBOUR: 'it returns false'. Refute it at one input. -/
def decimalsReadsWrong : ChangeSpec := { name := "decimalsReads", fn := fun _ => fun
  | [d] => { results := [.lit (.bool false)], args := [d] }
  | _ => none }
def DecimalsReadsWrongFalsely : Prop := decimalsReadsRow.holds Tryz.pinned (OpenSpec.ofChange decimalsReadsWrong)

/-- 'gussetlaw04.DecimalsCycle': WHATEVER THE INPUT: true; the input reads as it did. -/
def decimalsCycleSpec : ChangeSpec := { name := "decimalsCycle", fn := fun _ => fun
  | [d] => { results := [.lit (.bool true)], args := [d] }
  | _ => none }
def decimalsCycleRow : OpenClaim := { program := "ytobojnodohjiaaagreatdoor", sum := "ec37c27a6ba916a9d036ba6f768bc016d7744866ce2a4b7c0ca085b24e4d9769", func := "gusset/gussetlaw04.DecimalsCycle", spec := "decimalsCycle", inPlace := ["math/bits.Add64", "internal/abi.NoEscape", "internal/bytealg.MakeNoZero", "internal/bytealg.IndexByteString", "internal/bytealg.IndexString"], unfollowed := true, recurses := true, named := ["math/bits.overflowError", "internal/strconv.uint64pow10", "math/bits.deBruijn32tab", "math/bits.deBruijn64tab", "internal/bytealg.MaxLen"], apart := false, laid := [("math/bits.deBruijn32tab", laid_math_bits_deBruijn32tab), ("math/bits.deBruijn64tab", laid_math_bits_deBruijn64tab), ("internal/strconv.uint64pow10", laid_internal_strconv_uint64pow10)] }
def DecimalsCycleSaid : Prop := decimalsCycleRow.holds Tryz.pinned (OpenSpec.ofChange decimalsCycleSpec)

/-- ITS FALSE NEIGHBOUR: 'it returns false'. Refute it at one input. -/
def decimalsCycleWrong : ChangeSpec := { name := "decimalsCycle", fn := fun _ => fun
  | [d] => { results := [.lit (.bool false)], args := [d] }
  | _ => none }
def DecimalsCycleWrongFalsely : Prop := decimalsCycleRow.holds Tryz.pinned (OpenSpec.ofChange decimalsCycleWrong)

/-- 'gussetlaw04.DecimalsKnown': WHATEVER THE INPUT: true; the input reads as it did. -/
def decimalsKnownSpec : ChangeSpec := { name := "decimalsKnown", fn := fun _ => fun
  | [] => { results := [.lit (.bool true)], args := [] }
  | _ => none }
def decimalsKnownRow : OpenClaim := { program := "ytobojnodohjiaaagreatdoor", sum := "ec37c27a6ba916a9d036ba6f768bc016d7744866ce2a4b7c0ca085b24e4d9769", func := "gusset/gussetlaw04.DecimalsKnown", spec := "decimalsKnown", inPlace := ["math/bits.Add64", "internal/abi.NoEscape", "internal/bytealg.MakeNoZero", "internal/bytealg.IndexByteString", "internal/bytealg.IndexString"], unfollowed := true, recurses := true, named := ["math/bits.overflowError", "internal/strconv.uint64pow10", "math/bits.deBruijn32tab", "math/bits.deBruijn64tab", "internal/bytealg.MaxLen"], apart := false, laid := [("math/bits.deBruijn32tab", laid_math_bits_deBruijn32tab), ("math/bits.deBruijn64tab", laid_math_bits_deBruijn64tab), ("internal/strconv.uint64pow10", laid_internal_strconv_uint64pow10)] }
def DecimalsKnownSaid : Prop := decimalsKnownRow.holds Tryz.pinned (OpenSpec.ofChange decimalsKnownSpec)

/-- ITS FALSE NEIGHBOUR: 'it returns false'. Refute it at one input. -/
def decimalsKnownWrong : ChangeSpec := { name := "decimalsKnown", fn := fun _ => fun
  | [] => { results := [.lit (.bool false)], args := [] }
  | _ => none }
def DecimalsKnownWrongFalsely : Prop := decimalsKnownRow.holds Tryz.pinned (OpenSpec.ofChange decimalsKnownWrong)

/- THE SECOND FORM. 'bulk': how many values and letters a reading holds, each counted each time it is reached (what is shared counts as often as it is met; a slice's spare places count too). A statement '..UptoSaid' is the law's where the arguments, and the package variables that the reading takes, are together of bulk at most 1048576: NARROWER than '..Said'. Prove '..Said' where nothing that the law and all that it calls make is longer than what came in: it says more and counts as full. Else prove '..UptoSaid'. A law counts once. -/
mutual
def uptoBulk {H : Type} : DataW H → Nat
  | .lit (.string bytes) => bytes.length + 1
  | .lit _ => 1
  | .nil => 1
  | .ptr d => uptoBulk d + 1
  | .slice elems spare => uptoBulkAll elems + uptoBulkAll spare + 1
  | .agg parts => uptoBulkAll parts + 1
  | .iface _ d => uptoBulk d + 1
  | .map entries => uptoBulkEntries entries + 1
  | .held _ => 1
def uptoBulkAll {H : Type} : List (DataW H) → Nat
  | [] => 0
  | d :: r => uptoBulk d + uptoBulkAll r
def uptoBulkEntries {H : Type} : List (Lit × DataW H) → Nat
  | [] => 0
  | x :: r => uptoBulkEntry x + uptoBulkEntries r
def uptoBulkEntry {H : Type} : Lit × DataW H → Nat
  | (.string bytes, d) => bytes.length + uptoBulk d + 1
  | (_, d) => uptoBulk d + 1
 end
def uptoSmall : (H : Type) → List (DataW H) → Bool := fun _ ds => decide (uptoBulkAll ds ≤ 1048576)
def OpenSpec.upto (s : _root_.Go.ChangeSpec) : _root_.Go.OpenSpec := { _root_.Go.OpenSpec.ofChange s with cond := some uptoSmall }

/-- 'gussetlaw23.PointsCut', WHERE WHAT IT READS IS OF BULK AT MOST 1048576: true; the input reads as it did. -/
def pointsCutUptoRow : OpenClaim := { program := "ytobojnodohjiaaagreatdoor", sum := "ec37c27a6ba916a9d036ba6f768bc016d7744866ce2a4b7c0ca085b24e4d9769", func := "gusset/gussetlaw23.PointsCut", spec := "pointsCut", inPlace := ["math/bits.Add64", "internal/abi.NoEscape", "internal/bytealg.MakeNoZero"], unfollowed := true, recurses := true, named := ["math/bits.overflowError", "internal/strconv.uint64pow10", "math/bits.deBruijn32tab", "math/bits.deBruijn64tab"], apart := false, laid := [("math/bits.deBruijn32tab", laid_math_bits_deBruijn32tab), ("math/bits.deBruijn64tab", laid_math_bits_deBruijn64tab), ("internal/strconv.uint64pow10", laid_internal_strconv_uint64pow10)], narrowed := true }
def PointsCutUptoSaid : Prop := pointsCutUptoRow.holds Tryz.pinned (OpenSpec.upto pointsCutSpec)

/-- 'gussetlaw07.ReconsBack', WHERE WHAT IT READS IS OF BULK AT MOST 1048576: true; the input reads as it did. -/
def reconsBackUptoRow : OpenClaim := { program := "ytobojnodohjiaaagreatdoor", sum := "ec37c27a6ba916a9d036ba6f768bc016d7744866ce2a4b7c0ca085b24e4d9769", func := "gusset/gussetlaw07.ReconsBack", spec := "reconsBack", inPlace := ["math/bits.Add64", "internal/abi.NoEscape", "internal/bytealg.MakeNoZero"], unfollowed := true, recurses := true, named := ["math/bits.overflowError", "internal/strconv.uint64pow10", "math/bits.deBruijn32tab", "math/bits.deBruijn64tab"], apart := false, laid := [("math/bits.deBruijn32tab", laid_math_bits_deBruijn32tab), ("math/bits.deBruijn64tab", laid_math_bits_deBruijn64tab), ("internal/strconv.uint64pow10", laid_internal_strconv_uint64pow10)], narrowed := true }
def ReconsBackUptoSaid : Prop := reconsBackUptoRow.holds Tryz.pinned (OpenSpec.upto reconsBackSpec)

/-- 'gussetlaw07.ReconsChinese', WHERE WHAT IT READS IS OF BULK AT MOST 1048576: true; the input reads as it did. -/
def reconsChineseUptoRow : OpenClaim := { program := "ytobojnodohjiaaagreatdoor", sum := "ec37c27a6ba916a9d036ba6f768bc016d7744866ce2a4b7c0ca085b24e4d9769", func := "gusset/gussetlaw07.ReconsChinese", spec := "reconsChinese", inPlace := ["math/bits.Add64", "internal/abi.NoEscape", "internal/bytealg.MakeNoZero"], unfollowed := true, recurses := true, named := ["math/bits.overflowError", "internal/strconv.uint64pow10", "math/bits.deBruijn32tab", "math/bits.deBruijn64tab"], apart := false, laid := [("math/bits.deBruijn32tab", laid_math_bits_deBruijn32tab), ("math/bits.deBruijn64tab", laid_math_bits_deBruijn64tab), ("internal/strconv.uint64pow10", laid_internal_strconv_uint64pow10)], narrowed := true }
def ReconsChineseUptoSaid : Prop := reconsChineseUptoRow.holds Tryz.pinned (OpenSpec.upto reconsChineseSpec)

/-- 'gussetlaw07.ReconsThere', WHERE WHAT IT READS IS OF BULK AT MOST 1048576: true; the input reads as it did. -/
def reconsThereUptoRow : OpenClaim := { program := "ytobojnodohjiaaagreatdoor", sum := "ec37c27a6ba916a9d036ba6f768bc016d7744866ce2a4b7c0ca085b24e4d9769", func := "gusset/gussetlaw07.ReconsThere", spec := "reconsThere", inPlace := ["math/bits.Add64", "internal/abi.NoEscape", "internal/bytealg.MakeNoZero"], unfollowed := true, recurses := true, named := ["math/bits.overflowError", "internal/strconv.uint64pow10", "math/bits.deBruijn32tab", "math/bits.deBruijn64tab"], apart := false, laid := [("math/bits.deBruijn32tab", laid_math_bits_deBruijn32tab), ("math/bits.deBruijn64tab", laid_math_bits_deBruijn64tab), ("internal/strconv.uint64pow10", laid_internal_strconv_uint64pow10)], narrowed := true }
def ReconsThereUptoSaid : Prop := reconsThereUptoRow.holds Tryz.pinned (OpenSpec.upto reconsThereSpec)

/-- 'gussetlaw07.ReconsJoins', WHERE WHAT IT READS IS OF BULK AT MOST 1048576: true; the input reads as it did. -/
def reconsJoinsUptoRow : OpenClaim := { program := "ytobojnodohjiaaagreatdoor", sum := "ec37c27a6ba916a9d036ba6f768bc016d7744866ce2a4b7c0ca085b24e4d9769", func := "gusset/gussetlaw07.ReconsJoins", spec := "reconsJoins", inPlace := ["math/bits.Add64", "internal/abi.NoEscape", "internal/bytealg.MakeNoZero"], unfollowed := true, recurses := true, named := ["math/bits.overflowError", "internal/strconv.uint64pow10", "math/bits.deBruijn32tab", "math/bits.deBruijn64tab"], apart := false, laid := [("math/bits.deBruijn32tab", laid_math_bits_deBruijn32tab), ("math/bits.deBruijn64tab", laid_math_bits_deBruijn64tab), ("internal/strconv.uint64pow10", laid_internal_strconv_uint64pow10)], narrowed := true }
def ReconsJoinsUptoSaid : Prop := reconsJoinsUptoRow.holds Tryz.pinned (OpenSpec.upto reconsJoinsSpec)

/-- 'gussetlaw07.ReconsOne', WHERE WHAT IT READS IS OF BULK AT MOST 1048576: true; the input reads as it did. -/
def reconsOneUptoRow : OpenClaim := { program := "ytobojnodohjiaaagreatdoor", sum := "ec37c27a6ba916a9d036ba6f768bc016d7744866ce2a4b7c0ca085b24e4d9769", func := "gusset/gussetlaw07.ReconsOne", spec := "reconsOne", inPlace := ["math/bits.Add64", "internal/abi.NoEscape", "internal/bytealg.MakeNoZero"], unfollowed := true, recurses := true, named := ["math/bits.overflowError", "internal/strconv.uint64pow10", "math/bits.deBruijn32tab", "math/bits.deBruijn64tab"], apart := false, laid := [("math/bits.deBruijn32tab", laid_math_bits_deBruijn32tab), ("math/bits.deBruijn64tab", laid_math_bits_deBruijn64tab), ("internal/strconv.uint64pow10", laid_internal_strconv_uint64pow10)], narrowed := true }
def ReconsOneUptoSaid : Prop := reconsOneUptoRow.holds Tryz.pinned (OpenSpec.upto reconsOneSpec)

/-- 'gussetlaw07.ReconsFits', WHERE WHAT IT READS IS OF BULK AT MOST 1048576: true; the input reads as it did. -/
def reconsFitsUptoRow : OpenClaim := { program := "ytobojnodohjiaaagreatdoor", sum := "ec37c27a6ba916a9d036ba6f768bc016d7744866ce2a4b7c0ca085b24e4d9769", func := "gusset/gussetlaw07.ReconsFits", spec := "reconsFits", inPlace := ["math/bits.Add64", "internal/abi.NoEscape", "internal/bytealg.MakeNoZero"], unfollowed := true, recurses := true, named := ["math/bits.overflowError", "internal/strconv.uint64pow10", "math/bits.deBruijn32tab", "math/bits.deBruijn64tab"], apart := false, laid := [("math/bits.deBruijn32tab", laid_math_bits_deBruijn32tab), ("math/bits.deBruijn64tab", laid_math_bits_deBruijn64tab), ("internal/strconv.uint64pow10", laid_internal_strconv_uint64pow10)], narrowed := true }
def ReconsFitsUptoSaid : Prop := reconsFitsUptoRow.holds Tryz.pinned (OpenSpec.upto reconsFitsSpec)

/-- 'gussetlaw07.ReconsPrimes', WHERE WHAT IT READS IS OF BULK AT MOST 1048576: true; the input reads as it did. -/
def reconsPrimesUptoRow : OpenClaim := { program := "ytobojnodohjiaaagreatdoor", sum := "ec37c27a6ba916a9d036ba6f768bc016d7744866ce2a4b7c0ca085b24e4d9769", func := "gusset/gussetlaw07.ReconsPrimes", spec := "reconsPrimes", inPlace := ["math/bits.Add64", "internal/abi.NoEscape", "internal/bytealg.MakeNoZero"], unfollowed := true, recurses := true, named := ["math/bits.overflowError", "internal/strconv.uint64pow10", "math/bits.deBruijn32tab", "math/bits.deBruijn64tab"], apart := false, laid := [("math/bits.deBruijn32tab", laid_math_bits_deBruijn32tab), ("math/bits.deBruijn64tab", laid_math_bits_deBruijn64tab), ("internal/strconv.uint64pow10", laid_internal_strconv_uint64pow10)], narrowed := true }
def ReconsPrimesUptoSaid : Prop := reconsPrimesUptoRow.holds Tryz.pinned (OpenSpec.upto reconsPrimesSpec)

/-- 'gussetlaw07.ReconsKnown', WHERE WHAT IT READS IS OF BULK AT MOST 1048576: true; the input reads as it did. -/
def reconsKnownUptoRow : OpenClaim := { program := "ytobojnodohjiaaagreatdoor", sum := "ec37c27a6ba916a9d036ba6f768bc016d7744866ce2a4b7c0ca085b24e4d9769", func := "gusset/gussetlaw07.ReconsKnown", spec := "reconsKnown", inPlace := ["math/bits.Add64", "internal/abi.NoEscape", "internal/bytealg.MakeNoZero"], unfollowed := true, recurses := true, named := ["math/bits.overflowError", "internal/strconv.uint64pow10", "math/bits.deBruijn32tab", "math/bits.deBruijn64tab"], apart := false, laid := [("math/bits.deBruijn32tab", laid_math_bits_deBruijn32tab), ("math/bits.deBruijn64tab", laid_math_bits_deBruijn64tab), ("internal/strconv.uint64pow10", laid_internal_strconv_uint64pow10)], narrowed := true }
def ReconsKnownUptoSaid : Prop := reconsKnownUptoRow.holds Tryz.pinned (OpenSpec.upto reconsKnownSpec)

/-- 'gussetlaw03.FracsKnown', WHERE WHAT IT READS IS OF BULK AT MOST 1048576: true; the input reads as it did. -/
def fracsKnownUptoRow : OpenClaim := { program := "ytobojnodohjiaaagreatdoor", sum := "ec37c27a6ba916a9d036ba6f768bc016d7744866ce2a4b7c0ca085b24e4d9769", func := "gusset/gussetlaw03.FracsKnown", spec := "fracsKnown", inPlace := ["math/bits.Add64", "internal/abi.NoEscape", "internal/bytealg.MakeNoZero", "internal/bytealg.IndexByteString", "internal/bytealg.IndexString"], unfollowed := true, recurses := true, named := ["math/bits.overflowError", "internal/strconv.uint64pow10", "math/bits.deBruijn32tab", "math/bits.deBruijn64tab", "internal/bytealg.MaxLen"], apart := false, laid := [("math/bits.deBruijn32tab", laid_math_bits_deBruijn32tab), ("math/bits.deBruijn64tab", laid_math_bits_deBruijn64tab), ("internal/strconv.uint64pow10", laid_internal_strconv_uint64pow10)], narrowed := true }
def FracsKnownUptoSaid : Prop := fracsKnownUptoRow.holds Tryz.pinned (OpenSpec.upto fracsKnownSpec)

/-- 'gussetlaw04.DecimalsReads', WHERE WHAT IT READS IS OF BULK AT MOST 1048576: true; the input reads as it did. -/
def decimalsReadsUptoRow : OpenClaim := { program := "ytobojnodohjiaaagreatdoor", sum := "ec37c27a6ba916a9d036ba6f768bc016d7744866ce2a4b7c0ca085b24e4d9769", func := "gusset/gussetlaw04.DecimalsReads", spec := "decimalsReads", inPlace := ["internal/bytealg.IndexByteString", "internal/bytealg.IndexString", "math/bits.Add64", "internal/abi.NoEscape", "internal/bytealg.MakeNoZero"], unfollowed := true, recurses := true, named := ["internal/bytealg.MaxLen", "math/bits.overflowError", "internal/strconv.uint64pow10", "math/bits.deBruijn32tab", "math/bits.deBruijn64tab"], apart := false, laid := [("math/bits.deBruijn32tab", laid_math_bits_deBruijn32tab), ("math/bits.deBruijn64tab", laid_math_bits_deBruijn64tab), ("internal/strconv.uint64pow10", laid_internal_strconv_uint64pow10)], narrowed := true }
def DecimalsReadsUptoSaid : Prop := decimalsReadsUptoRow.holds Tryz.pinned (OpenSpec.upto decimalsReadsSpec)

/-- 'gussetlaw04.DecimalsCycle', WHERE WHAT IT READS IS OF BULK AT MOST 1048576: true; the input reads as it did. -/
def decimalsCycleUptoRow : OpenClaim := { program := "ytobojnodohjiaaagreatdoor", sum := "ec37c27a6ba916a9d036ba6f768bc016d7744866ce2a4b7c0ca085b24e4d9769", func := "gusset/gussetlaw04.DecimalsCycle", spec := "decimalsCycle", inPlace := ["math/bits.Add64", "internal/abi.NoEscape", "internal/bytealg.MakeNoZero", "internal/bytealg.IndexByteString", "internal/bytealg.IndexString"], unfollowed := true, recurses := true, named := ["math/bits.overflowError", "internal/strconv.uint64pow10", "math/bits.deBruijn32tab", "math/bits.deBruijn64tab", "internal/bytealg.MaxLen"], apart := false, laid := [("math/bits.deBruijn32tab", laid_math_bits_deBruijn32tab), ("math/bits.deBruijn64tab", laid_math_bits_deBruijn64tab), ("internal/strconv.uint64pow10", laid_internal_strconv_uint64pow10)], narrowed := true }
def DecimalsCycleUptoSaid : Prop := decimalsCycleUptoRow.holds Tryz.pinned (OpenSpec.upto decimalsCycleSpec)

/-- 'gussetlaw04.DecimalsKnown', WHERE WHAT IT READS IS OF BULK AT MOST 1048576: true; the input reads as it did. -/
def decimalsKnownUptoRow : OpenClaim := { program := "ytobojnodohjiaaagreatdoor", sum := "ec37c27a6ba916a9d036ba6f768bc016d7744866ce2a4b7c0ca085b24e4d9769", func := "gusset/gussetlaw04.DecimalsKnown", spec := "decimalsKnown", inPlace := ["math/bits.Add64", "internal/abi.NoEscape", "internal/bytealg.MakeNoZero", "internal/bytealg.IndexByteString", "internal/bytealg.IndexString"], unfollowed := true, recurses := true, named := ["math/bits.overflowError", "internal/strconv.uint64pow10", "math/bits.deBruijn32tab", "math/bits.deBruijn64tab", "internal/bytealg.MaxLen"], apart := false, laid := [("math/bits.deBruijn32tab", laid_math_bits_deBruijn32tab), ("math/bits.deBruijn64tab", laid_math_bits_deBruijn64tab), ("internal/strconv.uint64pow10", laid_internal_strconv_uint64pow10)], narrowed := true }
def DecimalsKnownUptoSaid : Prop := decimalsKnownUptoRow.holds Tryz.pinned (OpenSpec.upto decimalsKnownSpec)

end Rows
end Go.Proofs.YtobojnodohjiaaaGreatDoor
