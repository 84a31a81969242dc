/-
  NARROWER THAN 'FOR EVERY INPUT', by the rows' own cells (each row's printed sentence says how): NatsSums: laid · NatsProducts: laid · NatsRoots: laid · NatsReads: laid · NatsDivides: laid · NatsDivisors: laid · NatsTexts: laid · NatsRings: laid · NatsKnown: laid.
  DERIVED. THE GIVEN ROWS OF THIS SEAT. 9 by the template 'for every input the law returns true; each argument reads behind the call as it read before'; 0 by the template 'total and deterministic' (their statements: YteenojfbnbkedaaDoorTotals.lean).
  GIVEN WITH THE SEED: the statements are not yours to turn. If you find one false, say at which input.
  Laid BY PROGRAM, IN A SANDBOX (cutbox-rows.mjs): the forced cells as the released guide's own fill.sh prints them over the translation ad30190aaf3dd098… (all of the seat's roots in one cut). By AI agents, Wed Nov 11 2026. No macro, syntax, notation, axiom, sorry.
-/
import Derived.Test.YteenojfbnbkedaaDoorChecked
import GoSem.Claim
import GoSem.ClaimJoined
import GoSem.ClaimMapViews
import Derived.JoinedTies
import Derived.KernelRfl
namespace Go.Proofs.YteenojfbnbkedaaDoor
/- THE CELL 'sum', in the pinned program and in every row, IS THE sha256 OF THE DUMP (.gsa) THAT YteenojfbnbkedaaDoorProg.lean LOADS. Nothing in Lean hashes anything: it is a label: what it is worth is what the hold of that sum in a sandbox is worth. -/
noncomputable def Tryd.pinned : Pinned := { name := "yteenojfbnbkedaadoor", sum := "ad30190aaf3dd098de399d58667d9dc9ee1b46e946b7ca104c55e7736919566f", checked := Tryd.checked }
namespace Rows
def none {H : Type} : Left H := { results := [], args := [] }

/- WHAT THE LISTED PACKAGE-LEVEL VARIABLES READ AS WHEN THE CALL BEGINS. Each datum BY PROGRAM (the guide's laid-datum.mjs) off the statement by which the dump's own 'gosem.cut.vars' lays the variable. In a bare row this is a premise. The card (YteenojfbnbkedaaDoorCards.lean) ties it to the program's text. -/
def laid_math_bits_deBruijn32tab {H : Type} : DataW H := .agg [.lit (.int .u8 0), .lit (.int .u8 1), .lit (.int .u8 28), .lit (.int .u8 2), .lit (.int .u8 29), .lit (.int .u8 14), .lit (.int .u8 24), .lit (.int .u8 3), .lit (.int .u8 30), .lit (.int .u8 22), .lit (.int .u8 20), .lit (.int .u8 15), .lit (.int .u8 25), .lit (.int .u8 17), .lit (.int .u8 4), .lit (.int .u8 8), .lit (.int .u8 31), .lit (.int .u8 27), .lit (.int .u8 13), .lit (.int .u8 23), .lit (.int .u8 21), .lit (.int .u8 19), .lit (.int .u8 16), .lit (.int .u8 7), .lit (.int .u8 26), .lit (.int .u8 12), .lit (.int .u8 18), .lit (.int .u8 6), .lit (.int .u8 11), .lit (.int .u8 5), .lit (.int .u8 10), .lit (.int .u8 9)]
def laid_math_bits_deBruijn64tab {H : Type} : DataW H := .agg [.lit (.int .u8 0), .lit (.int .u8 1), .lit (.int .u8 56), .lit (.int .u8 2), .lit (.int .u8 57), .lit (.int .u8 49), .lit (.int .u8 28), .lit (.int .u8 3), .lit (.int .u8 61), .lit (.int .u8 58), .lit (.int .u8 42), .lit (.int .u8 50), .lit (.int .u8 38), .lit (.int .u8 29), .lit (.int .u8 17), .lit (.int .u8 4), .lit (.int .u8 62), .lit (.int .u8 47), .lit (.int .u8 59), .lit (.int .u8 36), .lit (.int .u8 45), .lit (.int .u8 43), .lit (.int .u8 51), .lit (.int .u8 22), .lit (.int .u8 53), .lit (.int .u8 39), .lit (.int .u8 33), .lit (.int .u8 30), .lit (.int .u8 24), .lit (.int .u8 18), .lit (.int .u8 12), .lit (.int .u8 5), .lit (.int .u8 63), .lit (.int .u8 55), .lit (.int .u8 48), .lit (.int .u8 27), .lit (.int .u8 60), .lit (.int .u8 41), .lit (.int .u8 37), .lit (.int .u8 16), .lit (.int .u8 46), .lit (.int .u8 35), .lit (.int .u8 44), .lit (.int .u8 21), .lit (.int .u8 52), .lit (.int .u8 32), .lit (.int .u8 23), .lit (.int .u8 11), .lit (.int .u8 54), .lit (.int .u8 26), .lit (.int .u8 40), .lit (.int .u8 15), .lit (.int .u8 34), .lit (.int .u8 20), .lit (.int .u8 31), .lit (.int .u8 10), .lit (.int .u8 25), .lit (.int .u8 14), .lit (.int .u8 19), .lit (.int .u8 9), .lit (.int .u8 13), .lit (.int .u8 8), .lit (.int .u8 7), .lit (.int .u8 6)]
def laid_internal_strconv_uint64pow10 {H : Type} : DataW H := .agg [.lit (.int .u64 1), .lit (.int .u64 10), .lit (.int .u64 100), .lit (.int .u64 1000), .lit (.int .u64 10000), .lit (.int .u64 100000), .lit (.int .u64 1000000), .lit (.int .u64 10000000), .lit (.int .u64 100000000), .lit (.int .u64 1000000000), .lit (.int .u64 10000000000), .lit (.int .u64 100000000000), .lit (.int .u64 1000000000000), .lit (.int .u64 10000000000000), .lit (.int .u64 100000000000000), .lit (.int .u64 1000000000000000), .lit (.int .u64 10000000000000000), .lit (.int .u64 100000000000000000), .lit (.int .u64 1000000000000000000), .lit (.int .u64 10000000000000000000)]

/-- 'gussetlaw01.NatsSums': WHATEVER THE INPUT: true; the input reads as it did. -/
def natsSumsSpec : ChangeSpec := { name := "natsSums", fn := fun _ => fun
  | [d1, d2] => { results := [.lit (.bool true)], args := [d1, d2] }
  | _ => none }
def natsSumsRow : OpenClaim := { program := "yteenojfbnbkedaadoor", sum := "ad30190aaf3dd098de399d58667d9dc9ee1b46e946b7ca104c55e7736919566f", func := "gusset/gussetlaw01.NatsSums", spec := "natsSums", inPlace := ["internal/abi.NoEscape", "internal/bytealg.MakeNoZero", "math/bits.Add64"], named := ["math/bits.overflowError", "internal/strconv.uint64pow10", "math/bits.deBruijn32tab", "math/bits.deBruijn64tab"], apart := false, laid := [("math/bits.deBruijn32tab", laid_math_bits_deBruijn32tab), ("math/bits.deBruijn64tab", laid_math_bits_deBruijn64tab), ("internal/strconv.uint64pow10", laid_internal_strconv_uint64pow10)] }
def NatsSumsSaid : Prop := natsSumsRow.holds Tryd.pinned (OpenSpec.ofChange natsSumsSpec)

/-- ITS FALSE NEIGHBOUR: 'it returns false'. Refute it at one input. -/
def natsSumsWrong : ChangeSpec := { name := "natsSums", fn := fun _ => fun
  | [d1, d2] => { results := [.lit (.bool false)], args := [d1, d2] }
  | _ => none }
def NatsSumsWrongFalsely : Prop := natsSumsRow.holds Tryd.pinned (OpenSpec.ofChange natsSumsWrong)

/-- 'gussetlaw01.NatsProducts': WHATEVER THE INPUT: true; the input reads as it did. -/
def natsProductsSpec : ChangeSpec := { name := "natsProducts", fn := fun _ => fun
  | [d1, d2] => { results := [.lit (.bool true)], args := [d1, d2] }
  | _ => none }
def natsProductsRow : OpenClaim := { program := "yteenojfbnbkedaadoor", sum := "ad30190aaf3dd098de399d58667d9dc9ee1b46e946b7ca104c55e7736919566f", func := "gusset/gussetlaw01.NatsProducts", spec := "natsProducts", inPlace := ["internal/abi.NoEscape", "internal/bytealg.MakeNoZero", "math/bits.Add64"], named := ["math/bits.overflowError", "internal/strconv.uint64pow10", "math/bits.deBruijn32tab", "math/bits.deBruijn64tab"], apart := false, laid := [("math/bits.deBruijn32tab", laid_math_bits_deBruijn32tab), ("math/bits.deBruijn64tab", laid_math_bits_deBruijn64tab), ("internal/strconv.uint64pow10", laid_internal_strconv_uint64pow10)] }
def NatsProductsSaid : Prop := natsProductsRow.holds Tryd.pinned (OpenSpec.ofChange natsProductsSpec)

/-- ITS FALSE NEIGHBOUR: 'it returns false'. Refute it at one input. -/
def natsProductsWrong : ChangeSpec := { name := "natsProducts", fn := fun _ => fun
  | [d1, d2] => { results := [.lit (.bool false)], args := [d1, d2] }
  | _ => none }
def NatsProductsWrongFalsely : Prop := natsProductsRow.holds Tryd.pinned (OpenSpec.ofChange natsProductsWrong)

/-- 'gussetlaw01.NatsRoots': WHATEVER THE INPUT: true; the input reads as it did. -/
def natsRootsSpec : ChangeSpec := { name := "natsRoots", fn := fun _ => fun
  | [d1, d2] => { results := [.lit (.bool true)], args := [d1, d2] }
  | _ => none }
def natsRootsRow : OpenClaim := { program := "yteenojfbnbkedaadoor", sum := "ad30190aaf3dd098de399d58667d9dc9ee1b46e946b7ca104c55e7736919566f", func := "gusset/gussetlaw01.NatsRoots", spec := "natsRoots", inPlace := ["internal/abi.NoEscape", "internal/bytealg.MakeNoZero", "math/bits.Add64"], named := ["math/bits.overflowError", "internal/strconv.uint64pow10", "math/bits.deBruijn32tab", "math/bits.deBruijn64tab"], apart := false, laid := [("math/bits.deBruijn32tab", laid_math_bits_deBruijn32tab), ("math/bits.deBruijn64tab", laid_math_bits_deBruijn64tab), ("internal/strconv.uint64pow10", laid_internal_strconv_uint64pow10)] }
def NatsRootsSaid : Prop := natsRootsRow.holds Tryd.pinned (OpenSpec.ofChange natsRootsSpec)

/-- ITS FALSE NEIGHBOUR: 'it returns false'. Refute it at one input. -/
def natsRootsWrong : ChangeSpec := { name := "natsRoots", fn := fun _ => fun
  | [d1, d2] => { results := [.lit (.bool false)], args := [d1, d2] }
  | _ => none }
def NatsRootsWrongFalsely : Prop := natsRootsRow.holds Tryd.pinned (OpenSpec.ofChange natsRootsWrong)

/-- 'gussetlaw01.NatsReads': WHATEVER THE INPUT: true; the input reads as it did. -/
def natsReadsSpec : ChangeSpec := { name := "natsReads", fn := fun _ => fun
  | [d] => { results := [.lit (.bool true)], args := [d] }
  | _ => none }
def natsReadsRow : OpenClaim := { program := "yteenojfbnbkedaadoor", sum := "ad30190aaf3dd098de399d58667d9dc9ee1b46e946b7ca104c55e7736919566f", func := "gusset/gussetlaw01.NatsReads", spec := "natsReads", inPlace := ["internal/abi.NoEscape", "internal/bytealg.MakeNoZero", "math/bits.Add64"], named := ["math/bits.overflowError", "internal/strconv.uint64pow10", "math/bits.deBruijn32tab", "math/bits.deBruijn64tab"], apart := false, laid := [("math/bits.deBruijn32tab", laid_math_bits_deBruijn32tab), ("math/bits.deBruijn64tab", laid_math_bits_deBruijn64tab), ("internal/strconv.uint64pow10", laid_internal_strconv_uint64pow10)] }
def NatsReadsSaid : Prop := natsReadsRow.holds Tryd.pinned (OpenSpec.ofChange natsReadsSpec)

/-- ITS FALSE NEIGHBOUR: 'it returns false'. Refute it at one input. -/
def natsReadsWrong : ChangeSpec := { name := "natsReads", fn := fun _ => fun
  | [d] => { results := [.lit (.bool false)], args := [d] }
  | _ => none }
def NatsReadsWrongFalsely : Prop := natsReadsRow.holds Tryd.pinned (OpenSpec.ofChange natsReadsWrong)

/-- 'gussetlaw01.NatsDivides': WHATEVER THE INPUT: true; the input reads as it did. -/
def natsDividesSpec : ChangeSpec := { name := "natsDivides", fn := fun _ => fun
  | [d1, d2, d3] => { results := [.lit (.bool true)], args := [d1, d2, d3] }
  | _ => none }
def natsDividesRow : OpenClaim := { program := "yteenojfbnbkedaadoor", sum := "ad30190aaf3dd098de399d58667d9dc9ee1b46e946b7ca104c55e7736919566f", func := "gusset/gussetlaw01.NatsDivides", spec := "natsDivides", inPlace := ["internal/abi.NoEscape", "internal/bytealg.MakeNoZero", "math/bits.Add64"], named := ["math/bits.overflowError", "internal/strconv.uint64pow10", "math/bits.deBruijn32tab", "math/bits.deBruijn64tab"], apart := false, laid := [("math/bits.deBruijn32tab", laid_math_bits_deBruijn32tab), ("math/bits.deBruijn64tab", laid_math_bits_deBruijn64tab), ("internal/strconv.uint64pow10", laid_internal_strconv_uint64pow10)] }
def NatsDividesSaid : Prop := natsDividesRow.holds Tryd.pinned (OpenSpec.ofChange natsDividesSpec)

/-- ITS FALSE NEIGHBOUR: 'it returns false'. Refute it at one input. -/
def natsDividesWrong : ChangeSpec := { name := "natsDivides", fn := fun _ => fun
  | [d1, d2, d3] => { results := [.lit (.bool false)], args := [d1, d2, d3] }
  | _ => none }
def NatsDividesWrongFalsely : Prop := natsDividesRow.holds Tryd.pinned (OpenSpec.ofChange natsDividesWrong)

/-- 'gussetlaw01.NatsDivisors': WHATEVER THE INPUT: true; the input reads as it did. -/
def natsDivisorsSpec : ChangeSpec := { name := "natsDivisors", fn := fun _ => fun
  | [d1, d2, d3] => { results := [.lit (.bool true)], args := [d1, d2, d3] }
  | _ => none }
def natsDivisorsRow : OpenClaim := { program := "yteenojfbnbkedaadoor", sum := "ad30190aaf3dd098de399d58667d9dc9ee1b46e946b7ca104c55e7736919566f", func := "gusset/gussetlaw01.NatsDivisors", spec := "natsDivisors", inPlace := ["internal/abi.NoEscape", "internal/bytealg.MakeNoZero", "math/bits.Add64"], named := ["math/bits.overflowError", "internal/strconv.uint64pow10", "math/bits.deBruijn32tab", "math/bits.deBruijn64tab"], apart := false, laid := [("math/bits.deBruijn32tab", laid_math_bits_deBruijn32tab), ("math/bits.deBruijn64tab", laid_math_bits_deBruijn64tab), ("internal/strconv.uint64pow10", laid_internal_strconv_uint64pow10)] }
def NatsDivisorsSaid : Prop := natsDivisorsRow.holds Tryd.pinned (OpenSpec.ofChange natsDivisorsSpec)

/-- ITS FALSE NEIGHBOUR: 'it returns false'. Refute it at one input. -/
def natsDivisorsWrong : ChangeSpec := { name := "natsDivisors", fn := fun _ => fun
  | [d1, d2, d3] => { results := [.lit (.bool false)], args := [d1, d2, d3] }
  | _ => none }
def NatsDivisorsWrongFalsely : Prop := natsDivisorsRow.holds Tryd.pinned (OpenSpec.ofChange natsDivisorsWrong)

/-- 'gussetlaw01.NatsTexts': WHATEVER THE INPUT: true; the input reads as it did. -/
def natsTextsSpec : ChangeSpec := { name := "natsTexts", fn := fun _ => fun
  | [d1, d2] => { results := [.lit (.bool true)], args := [d1, d2] }
  | _ => none }
def natsTextsRow : OpenClaim := { program := "yteenojfbnbkedaadoor", sum := "ad30190aaf3dd098de399d58667d9dc9ee1b46e946b7ca104c55e7736919566f", func := "gusset/gussetlaw01.NatsTexts", spec := "natsTexts", inPlace := ["internal/abi.NoEscape", "internal/bytealg.MakeNoZero", "math/bits.Add64"], named := ["math/bits.overflowError", "internal/strconv.uint64pow10", "math/bits.deBruijn32tab", "math/bits.deBruijn64tab"], apart := false, laid := [("math/bits.deBruijn32tab", laid_math_bits_deBruijn32tab), ("math/bits.deBruijn64tab", laid_math_bits_deBruijn64tab), ("internal/strconv.uint64pow10", laid_internal_strconv_uint64pow10)] }
def NatsTextsSaid : Prop := natsTextsRow.holds Tryd.pinned (OpenSpec.ofChange natsTextsSpec)

/-- ITS FALSE NEIGHBOUR: 'it returns false'. Refute it at one input. -/
def natsTextsWrong : ChangeSpec := { name := "natsTexts", fn := fun _ => fun
  | [d1, d2] => { results := [.lit (.bool false)], args := [d1, d2] }
  | _ => none }
def NatsTextsWrongFalsely : Prop := natsTextsRow.holds Tryd.pinned (OpenSpec.ofChange natsTextsWrong)

/-- 'gussetlaw01.NatsRings': WHATEVER THE INPUT: true; the input reads as it did. -/
def natsRingsSpec : ChangeSpec := { name := "natsRings", fn := fun _ => fun
  | [d1, d2, d3] => { results := [.lit (.bool true)], args := [d1, d2, d3] }
  | _ => none }
def natsRingsRow : OpenClaim := { program := "yteenojfbnbkedaadoor", sum := "ad30190aaf3dd098de399d58667d9dc9ee1b46e946b7ca104c55e7736919566f", func := "gusset/gussetlaw01.NatsRings", spec := "natsRings", inPlace := ["internal/abi.NoEscape", "internal/bytealg.MakeNoZero", "math/bits.Add64"], named := ["math/bits.overflowError", "internal/strconv.uint64pow10", "math/bits.deBruijn32tab", "math/bits.deBruijn64tab"], apart := false, laid := [("math/bits.deBruijn32tab", laid_math_bits_deBruijn32tab), ("math/bits.deBruijn64tab", laid_math_bits_deBruijn64tab), ("internal/strconv.uint64pow10", laid_internal_strconv_uint64pow10)] }
def NatsRingsSaid : Prop := natsRingsRow.holds Tryd.pinned (OpenSpec.ofChange natsRingsSpec)

/-- ITS FALSE NEIGHBOUR: 'it returns false'. Refute it at one input. -/
def natsRingsWrong : ChangeSpec := { name := "natsRings", fn := fun _ => fun
  | [d1, d2, d3] => { results := [.lit (.bool false)], args := [d1, d2, d3] }
  | _ => none }
def NatsRingsWrongFalsely : Prop := natsRingsRow.holds Tryd.pinned (OpenSpec.ofChange natsRingsWrong)

/-- 'gussetlaw01.NatsKnown': WHATEVER THE INPUT: true; the input reads as it did. -/
def natsKnownSpec : ChangeSpec := { name := "natsKnown", fn := fun _ => fun
  | [] => { results := [.lit (.bool true)], args := [] }
  | _ => none }
def natsKnownRow : OpenClaim := { program := "yteenojfbnbkedaadoor", sum := "ad30190aaf3dd098de399d58667d9dc9ee1b46e946b7ca104c55e7736919566f", func := "gusset/gussetlaw01.NatsKnown", spec := "natsKnown", inPlace := ["internal/abi.NoEscape", "internal/bytealg.MakeNoZero", "math/bits.Add64"], named := ["math/bits.overflowError", "internal/strconv.uint64pow10", "math/bits.deBruijn32tab", "math/bits.deBruijn64tab"], apart := false, laid := [("math/bits.deBruijn32tab", laid_math_bits_deBruijn32tab), ("math/bits.deBruijn64tab", laid_math_bits_deBruijn64tab), ("internal/strconv.uint64pow10", laid_internal_strconv_uint64pow10)] }
def NatsKnownSaid : Prop := natsKnownRow.holds Tryd.pinned (OpenSpec.ofChange natsKnownSpec)

/-- ITS FALSE NEIGHBOUR: 'it returns false'. Refute it at one input. -/
def natsKnownWrong : ChangeSpec := { name := "natsKnown", fn := fun _ => fun
  | [] => { results := [.lit (.bool false)], args := [] }
  | _ => none }
def NatsKnownWrongFalsely : Prop := natsKnownRow.holds Tryd.pinned (OpenSpec.ofChange natsKnownWrong)

/- THE SECOND FORM. 'bulk': how many values and letters a reading holds, each counted each time it is reached (what is shared counts as often as it is met; a slice's spare places count too). A statement '..UptoSaid' is the law's where the arguments, and the package variables that the reading takes, are together of bulk at most 1048576: NARROWER than '..Said'. Prove '..Said' where nothing that the law and all that it calls make is longer than what came in: it says more and counts as full. Else prove '..UptoSaid'. A law counts once. -/
mutual
def uptoBulk {H : Type} : DataW H → Nat
  | .lit (.string bytes) => bytes.length + 1
  | .lit _ => 1
  | .nil => 1
  | .ptr d => uptoBulk d + 1
  | .slice elems spare => uptoBulkAll elems + uptoBulkAll spare + 1
  | .agg parts => uptoBulkAll parts + 1
  | .iface _ d => uptoBulk d + 1
  | .map entries => uptoBulkEntries entries + 1
  | .held _ => 1
def uptoBulkAll {H : Type} : List (DataW H) → Nat
  | [] => 0
  | d :: r => uptoBulk d + uptoBulkAll r
def uptoBulkEntries {H : Type} : List (Lit × DataW H) → Nat
  | [] => 0
  | x :: r => uptoBulkEntry x + uptoBulkEntries r
def uptoBulkEntry {H : Type} : Lit × DataW H → Nat
  | (.string bytes, d) => bytes.length + uptoBulk d + 1
  | (_, d) => uptoBulk d + 1
 end
def uptoSmall : (H : Type) → List (DataW H) → Bool := fun _ ds => decide (uptoBulkAll ds ≤ 1048576)
def OpenSpec.upto (s : _root_.Go.ChangeSpec) : _root_.Go.OpenSpec := { _root_.Go.OpenSpec.ofChange s with cond := some uptoSmall }

/-- 'gussetlaw01.NatsSums', WHERE WHAT IT READS IS OF BULK AT MOST 1048576: true; the input reads as it did. -/
def natsSumsUptoRow : OpenClaim := { program := "yteenojfbnbkedaadoor", sum := "ad30190aaf3dd098de399d58667d9dc9ee1b46e946b7ca104c55e7736919566f", func := "gusset/gussetlaw01.NatsSums", spec := "natsSums", inPlace := ["internal/abi.NoEscape", "internal/bytealg.MakeNoZero", "math/bits.Add64"], named := ["math/bits.overflowError", "internal/strconv.uint64pow10", "math/bits.deBruijn32tab", "math/bits.deBruijn64tab"], apart := false, laid := [("math/bits.deBruijn32tab", laid_math_bits_deBruijn32tab), ("math/bits.deBruijn64tab", laid_math_bits_deBruijn64tab), ("internal/strconv.uint64pow10", laid_internal_strconv_uint64pow10)], narrowed := true }
def NatsSumsUptoSaid : Prop := natsSumsUptoRow.holds Tryd.pinned (OpenSpec.upto natsSumsSpec)

/-- 'gussetlaw01.NatsProducts', WHERE WHAT IT READS IS OF BULK AT MOST 1048576: true; the input reads as it did. -/
def natsProductsUptoRow : OpenClaim := { program := "yteenojfbnbkedaadoor", sum := "ad30190aaf3dd098de399d58667d9dc9ee1b46e946b7ca104c55e7736919566f", func := "gusset/gussetlaw01.NatsProducts", spec := "natsProducts", inPlace := ["internal/abi.NoEscape", "internal/bytealg.MakeNoZero", "math/bits.Add64"], named := ["math/bits.overflowError", "internal/strconv.uint64pow10", "math/bits.deBruijn32tab", "math/bits.deBruijn64tab"], apart := false, laid := [("math/bits.deBruijn32tab", laid_math_bits_deBruijn32tab), ("math/bits.deBruijn64tab", laid_math_bits_deBruijn64tab), ("internal/strconv.uint64pow10", laid_internal_strconv_uint64pow10)], narrowed := true }
def NatsProductsUptoSaid : Prop := natsProductsUptoRow.holds Tryd.pinned (OpenSpec.upto natsProductsSpec)

/-- 'gussetlaw01.NatsRoots', WHERE WHAT IT READS IS OF BULK AT MOST 1048576: true; the input reads as it did. -/
def natsRootsUptoRow : OpenClaim := { program := "yteenojfbnbkedaadoor", sum := "ad30190aaf3dd098de399d58667d9dc9ee1b46e946b7ca104c55e7736919566f", func := "gusset/gussetlaw01.NatsRoots", spec := "natsRoots", inPlace := ["internal/abi.NoEscape", "internal/bytealg.MakeNoZero", "math/bits.Add64"], named := ["math/bits.overflowError", "internal/strconv.uint64pow10", "math/bits.deBruijn32tab", "math/bits.deBruijn64tab"], apart := false, laid := [("math/bits.deBruijn32tab", laid_math_bits_deBruijn32tab), ("math/bits.deBruijn64tab", laid_math_bits_deBruijn64tab), ("internal/strconv.uint64pow10", laid_internal_strconv_uint64pow10)], narrowed := true }
def NatsRootsUptoSaid : Prop := natsRootsUptoRow.holds Tryd.pinned (OpenSpec.upto natsRootsSpec)

/-- 'gussetlaw01.NatsReads', WHERE WHAT IT READS IS OF BULK AT MOST 1048576: true; the input reads as it did. -/
def natsReadsUptoRow : OpenClaim := { program := "yteenojfbnbkedaadoor", sum := "ad30190aaf3dd098de399d58667d9dc9ee1b46e946b7ca104c55e7736919566f", func := "gusset/gussetlaw01.NatsReads", spec := "natsReads", inPlace := ["internal/abi.NoEscape", "internal/bytealg.MakeNoZero", "math/bits.Add64"], named := ["math/bits.overflowError", "internal/strconv.uint64pow10", "math/bits.deBruijn32tab", "math/bits.deBruijn64tab"], apart := false, laid := [("math/bits.deBruijn32tab", laid_math_bits_deBruijn32tab), ("math/bits.deBruijn64tab", laid_math_bits_deBruijn64tab), ("internal/strconv.uint64pow10", laid_internal_strconv_uint64pow10)], narrowed := true }
def NatsReadsUptoSaid : Prop := natsReadsUptoRow.holds Tryd.pinned (OpenSpec.upto natsReadsSpec)

/-- 'gussetlaw01.NatsDivides', WHERE WHAT IT READS IS OF BULK AT MOST 1048576: true; the input reads as it did. -/
def natsDividesUptoRow : OpenClaim := { program := "yteenojfbnbkedaadoor", sum := "ad30190aaf3dd098de399d58667d9dc9ee1b46e946b7ca104c55e7736919566f", func := "gusset/gussetlaw01.NatsDivides", spec := "natsDivides", inPlace := ["internal/abi.NoEscape", "internal/bytealg.MakeNoZero", "math/bits.Add64"], named := ["math/bits.overflowError", "internal/strconv.uint64pow10", "math/bits.deBruijn32tab", "math/bits.deBruijn64tab"], apart := false, laid := [("math/bits.deBruijn32tab", laid_math_bits_deBruijn32tab), ("math/bits.deBruijn64tab", laid_math_bits_deBruijn64tab), ("internal/strconv.uint64pow10", laid_internal_strconv_uint64pow10)], narrowed := true }
def NatsDividesUptoSaid : Prop := natsDividesUptoRow.holds Tryd.pinned (OpenSpec.upto natsDividesSpec)

/-- 'gussetlaw01.NatsDivisors', WHERE WHAT IT READS IS OF BULK AT MOST 1048576: true; the input reads as it did. -/
def natsDivisorsUptoRow : OpenClaim := { program := "yteenojfbnbkedaadoor", sum := "ad30190aaf3dd098de399d58667d9dc9ee1b46e946b7ca104c55e7736919566f", func := "gusset/gussetlaw01.NatsDivisors", spec := "natsDivisors", inPlace := ["internal/abi.NoEscape", "internal/bytealg.MakeNoZero", "math/bits.Add64"], named := ["math/bits.overflowError", "internal/strconv.uint64pow10", "math/bits.deBruijn32tab", "math/bits.deBruijn64tab"], apart := false, laid := [("math/bits.deBruijn32tab", laid_math_bits_deBruijn32tab), ("math/bits.deBruijn64tab", laid_math_bits_deBruijn64tab), ("internal/strconv.uint64pow10", laid_internal_strconv_uint64pow10)], narrowed := true }
def NatsDivisorsUptoSaid : Prop := natsDivisorsUptoRow.holds Tryd.pinned (OpenSpec.upto natsDivisorsSpec)

/-- 'gussetlaw01.NatsTexts', WHERE WHAT IT READS IS OF BULK AT MOST 1048576: true; the input reads as it did. -/
def natsTextsUptoRow : OpenClaim := { program := "yteenojfbnbkedaadoor", sum := "ad30190aaf3dd098de399d58667d9dc9ee1b46e946b7ca104c55e7736919566f", func := "gusset/gussetlaw01.NatsTexts", spec := "natsTexts", inPlace := ["internal/abi.NoEscape", "internal/bytealg.MakeNoZero", "math/bits.Add64"], named := ["math/bits.overflowError", "internal/strconv.uint64pow10", "math/bits.deBruijn32tab", "math/bits.deBruijn64tab"], apart := false, laid := [("math/bits.deBruijn32tab", laid_math_bits_deBruijn32tab), ("math/bits.deBruijn64tab", laid_math_bits_deBruijn64tab), ("internal/strconv.uint64pow10", laid_internal_strconv_uint64pow10)], narrowed := true }
def NatsTextsUptoSaid : Prop := natsTextsUptoRow.holds Tryd.pinned (OpenSpec.upto natsTextsSpec)

/-- 'gussetlaw01.NatsRings', WHERE WHAT IT READS IS OF BULK AT MOST 1048576: true; the input reads as it did. -/
def natsRingsUptoRow : OpenClaim := { program := "yteenojfbnbkedaadoor", sum := "ad30190aaf3dd098de399d58667d9dc9ee1b46e946b7ca104c55e7736919566f", func := "gusset/gussetlaw01.NatsRings", spec := "natsRings", inPlace := ["internal/abi.NoEscape", "internal/bytealg.MakeNoZero", "math/bits.Add64"], named := ["math/bits.overflowError", "internal/strconv.uint64pow10", "math/bits.deBruijn32tab", "math/bits.deBruijn64tab"], apart := false, laid := [("math/bits.deBruijn32tab", laid_math_bits_deBruijn32tab), ("math/bits.deBruijn64tab", laid_math_bits_deBruijn64tab), ("internal/strconv.uint64pow10", laid_internal_strconv_uint64pow10)], narrowed := true }
def NatsRingsUptoSaid : Prop := natsRingsUptoRow.holds Tryd.pinned (OpenSpec.upto natsRingsSpec)

/-- 'gussetlaw01.NatsKnown', WHERE WHAT IT READS IS OF BULK AT MOST 1048576: true; the input reads as it did. -/
def natsKnownUptoRow : OpenClaim := { program := "yteenojfbnbkedaadoor", sum := "ad30190aaf3dd098de399d58667d9dc9ee1b46e946b7ca104c55e7736919566f", func := "gusset/gussetlaw01.NatsKnown", spec := "natsKnown", inPlace := ["internal/abi.NoEscape", "internal/bytealg.MakeNoZero", "math/bits.Add64"], named := ["math/bits.overflowError", "internal/strconv.uint64pow10", "math/bits.deBruijn32tab", "math/bits.deBruijn64tab"], apart := false, laid := [("math/bits.deBruijn32tab", laid_math_bits_deBruijn32tab), ("math/bits.deBruijn64tab", laid_math_bits_deBruijn64tab), ("internal/strconv.uint64pow10", laid_internal_strconv_uint64pow10)], narrowed := true }
def NatsKnownUptoSaid : Prop := natsKnownUptoRow.holds Tryd.pinned (OpenSpec.upto natsKnownSpec)

end Rows
end Go.Proofs.YteenojfbnbkedaaDoor
