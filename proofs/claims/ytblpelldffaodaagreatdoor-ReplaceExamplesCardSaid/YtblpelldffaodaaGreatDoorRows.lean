/-
  NARROWER THAN 'FOR EVERY INPUT', by the rows' own cells (each row's printed sentence says how): ReplaceExamples: laid · ReplaceYields: loops, laid · ReplaceOutputs: loops, laid · ReplaceOne: loops, laid · ReplaceBackwards: loops, laid · ReplaceCopies: loops, laid · ReplaceMarked: loops, laid · ReplaceMarks: loops, laid.
  DERIVED. THE GIVEN ROWS OF THIS SEAT. 8 by the template 'for every input the law returns true; each argument reads behind the call as it read before'; 0 by the template 'total and deterministic' (their statements: YtblpelldffaodaaGreatDoorTotals.lean).
  GIVEN WITH THE SEED: the statements are not yours to turn. If you find one false, say at which input.
  Laid BY PROGRAM, IN A SANDBOX (cutbox-rows.mjs): the forced cells as the released guide's own fill.sh prints them over the translation 2959090d15b96865… (all of the seat's roots in one cut). By AI agents, Wed Nov 11 2026. No macro, syntax, notation, axiom, sorry.
-/
import Derived.Test.YtblpelldffaodaaGreatDoorChecked
import GoSem.Claim
import GoSem.ClaimJoined
import GoSem.ClaimMapViews
import Derived.JoinedTies
import Derived.KernelRfl
namespace Go.Proofs.YtblpelldffaodaaGreatDoor
/- THE CELL 'sum', in the pinned program and in every row, IS THE sha256 OF THE DUMP (.gsa) THAT YtblpelldffaodaaGreatDoorProg.lean LOADS. Nothing in Lean hashes anything: it is a label: what it is worth is what the hold of that sum in a sandbox is worth. -/
noncomputable def Tryz.pinned : Pinned := { name := "ytblpelldffaodaagreatdoor", sum := "2959090d15b96865ef4f77e53aa2a503a32950139c2c1dc6587f9a0b4d312f33", checked := Tryz.checked }
namespace Rows
def none {H : Type} : Left H := { results := [], args := [] }

/- WHAT THE LISTED PACKAGE-LEVEL VARIABLES READ AS WHEN THE CALL BEGINS. Each datum BY PROGRAM (the guide's laid-datum.mjs) off the statement by which the dump's own 'gosem.cut.vars' lays the variable. In a bare row this is a premise. The card (YtblpelldffaodaaGreatDoorCards.lean) ties it to the program's text. -/
def laid_math_bits_deBruijn32tab {H : Type} : DataW H := .agg [.lit (.int .u8 0), .lit (.int .u8 1), .lit (.int .u8 28), .lit (.int .u8 2), .lit (.int .u8 29), .lit (.int .u8 14), .lit (.int .u8 24), .lit (.int .u8 3), .lit (.int .u8 30), .lit (.int .u8 22), .lit (.int .u8 20), .lit (.int .u8 15), .lit (.int .u8 25), .lit (.int .u8 17), .lit (.int .u8 4), .lit (.int .u8 8), .lit (.int .u8 31), .lit (.int .u8 27), .lit (.int .u8 13), .lit (.int .u8 23), .lit (.int .u8 21), .lit (.int .u8 19), .lit (.int .u8 16), .lit (.int .u8 7), .lit (.int .u8 26), .lit (.int .u8 12), .lit (.int .u8 18), .lit (.int .u8 6), .lit (.int .u8 11), .lit (.int .u8 5), .lit (.int .u8 10), .lit (.int .u8 9)]
def laid_math_bits_deBruijn64tab {H : Type} : DataW H := .agg [.lit (.int .u8 0), .lit (.int .u8 1), .lit (.int .u8 56), .lit (.int .u8 2), .lit (.int .u8 57), .lit (.int .u8 49), .lit (.int .u8 28), .lit (.int .u8 3), .lit (.int .u8 61), .lit (.int .u8 58), .lit (.int .u8 42), .lit (.int .u8 50), .lit (.int .u8 38), .lit (.int .u8 29), .lit (.int .u8 17), .lit (.int .u8 4), .lit (.int .u8 62), .lit (.int .u8 47), .lit (.int .u8 59), .lit (.int .u8 36), .lit (.int .u8 45), .lit (.int .u8 43), .lit (.int .u8 51), .lit (.int .u8 22), .lit (.int .u8 53), .lit (.int .u8 39), .lit (.int .u8 33), .lit (.int .u8 30), .lit (.int .u8 24), .lit (.int .u8 18), .lit (.int .u8 12), .lit (.int .u8 5), .lit (.int .u8 63), .lit (.int .u8 55), .lit (.int .u8 48), .lit (.int .u8 27), .lit (.int .u8 60), .lit (.int .u8 41), .lit (.int .u8 37), .lit (.int .u8 16), .lit (.int .u8 46), .lit (.int .u8 35), .lit (.int .u8 44), .lit (.int .u8 21), .lit (.int .u8 52), .lit (.int .u8 32), .lit (.int .u8 23), .lit (.int .u8 11), .lit (.int .u8 54), .lit (.int .u8 26), .lit (.int .u8 40), .lit (.int .u8 15), .lit (.int .u8 34), .lit (.int .u8 20), .lit (.int .u8 31), .lit (.int .u8 10), .lit (.int .u8 25), .lit (.int .u8 14), .lit (.int .u8 19), .lit (.int .u8 9), .lit (.int .u8 13), .lit (.int .u8 8), .lit (.int .u8 7), .lit (.int .u8 6)]
def laid_internal_strconv_uint64pow10 {H : Type} : DataW H := .agg [.lit (.int .u64 1), .lit (.int .u64 10), .lit (.int .u64 100), .lit (.int .u64 1000), .lit (.int .u64 10000), .lit (.int .u64 100000), .lit (.int .u64 1000000), .lit (.int .u64 10000000), .lit (.int .u64 100000000), .lit (.int .u64 1000000000), .lit (.int .u64 10000000000), .lit (.int .u64 100000000000), .lit (.int .u64 1000000000000), .lit (.int .u64 10000000000000), .lit (.int .u64 100000000000000), .lit (.int .u64 1000000000000000), .lit (.int .u64 10000000000000000), .lit (.int .u64 100000000000000000), .lit (.int .u64 1000000000000000000), .lit (.int .u64 10000000000000000000)]

/-- 'abugidalaw29.ReplaceExamples': WHATEVER THE INPUT: true; the input reads as it did. -/
def replaceExamplesSpec : ChangeSpec := { name := "replaceExamples", fn := fun _ => fun
  | [] => { results := [.lit (.bool true)], args := [] }
  | _ => none }
def replaceExamplesRow : OpenClaim := { program := "ytblpelldffaodaagreatdoor", sum := "2959090d15b96865ef4f77e53aa2a503a32950139c2c1dc6587f9a0b4d312f33", func := "abugida/abugidalaw29.ReplaceExamples", spec := "replaceExamples", inPlace := ["internal/bytealg.IndexByteString", "internal/bytealg.IndexString", "internal/abi.NoEscape", "internal/bytealg.MakeNoZero"], unfollowed := true, recurses := true, named := ["internal/bytealg.MaxLen", "internal/strconv.uint64pow10", "math/bits.deBruijn32tab", "math/bits.deBruijn64tab"], plainKeys := false, apart := false, laid := [("math/bits.deBruijn32tab", laid_math_bits_deBruijn32tab), ("math/bits.deBruijn64tab", laid_math_bits_deBruijn64tab), ("internal/strconv.uint64pow10", laid_internal_strconv_uint64pow10)] }
def ReplaceExamplesSaid : Prop := replaceExamplesRow.holds Tryz.pinned (OpenSpec.ofChange replaceExamplesSpec)

/-- ITS FALSE NEIGHBOUR: 'it returns false'. Refute it at one input. -/
def replaceExamplesWrong : ChangeSpec := { name := "replaceExamples", fn := fun _ => fun
  | [] => { results := [.lit (.bool false)], args := [] }
  | _ => none }
def ReplaceExamplesWrongFalsely : Prop := replaceExamplesRow.holds Tryz.pinned (OpenSpec.ofChange replaceExamplesWrong)

/-- 'abugidalaw29.ReplaceYields': WHATEVER THE INPUT: true; the input reads as it did. -/
def replaceYieldsSpec : ChangeSpec := { name := "replaceYields", fn := fun _ => fun
  | [d1, d2, d3, d4] => { results := [.lit (.bool true)], args := [d1, d2, d3, d4] }
  | _ => none }
def replaceYieldsRow : OpenClaim := { program := "ytblpelldffaodaagreatdoor", sum := "2959090d15b96865ef4f77e53aa2a503a32950139c2c1dc6587f9a0b4d312f33", func := "abugida/abugidalaw29.ReplaceYields", spec := "replaceYields", inPlace := ["internal/bytealg.IndexByteString", "internal/bytealg.IndexString", "internal/abi.NoEscape", "internal/bytealg.MakeNoZero"], unfollowed := true, recurses := true, named := ["internal/bytealg.MaxLen", "internal/strconv.uint64pow10", "math/bits.deBruijn32tab", "math/bits.deBruijn64tab"], loops := true, plainKeys := false, apart := false, laid := [("math/bits.deBruijn32tab", laid_math_bits_deBruijn32tab), ("math/bits.deBruijn64tab", laid_math_bits_deBruijn64tab), ("internal/strconv.uint64pow10", laid_internal_strconv_uint64pow10)] }
def ReplaceYieldsSaid : Prop := replaceYieldsRow.holds Tryz.pinned (OpenSpec.ofChange replaceYieldsSpec)

/-- ITS FALSE NEIGHBOUR: 'it returns false'. Refute it at one input. -/
def replaceYieldsWrong : ChangeSpec := { name := "replaceYields", fn := fun _ => fun
  | [d1, d2, d3, d4] => { results := [.lit (.bool false)], args := [d1, d2, d3, d4] }
  | _ => none }
def ReplaceYieldsWrongFalsely : Prop := replaceYieldsRow.holds Tryz.pinned (OpenSpec.ofChange replaceYieldsWrong)

/-- 'abugidalaw29.ReplaceOutputs': WHATEVER THE INPUT: true; the input reads as it did. -/
def replaceOutputsSpec : ChangeSpec := { name := "replaceOutputs", fn := fun _ => fun
  | [d1, d2, d3] => { results := [.lit (.bool true)], args := [d1, d2, d3] }
  | _ => none }
def replaceOutputsRow : OpenClaim := { program := "ytblpelldffaodaagreatdoor", sum := "2959090d15b96865ef4f77e53aa2a503a32950139c2c1dc6587f9a0b4d312f33", func := "abugida/abugidalaw29.ReplaceOutputs", spec := "replaceOutputs", inPlace := ["internal/bytealg.IndexByteString", "internal/bytealg.IndexString", "internal/abi.NoEscape", "internal/bytealg.MakeNoZero"], unfollowed := true, recurses := true, named := ["internal/bytealg.MaxLen", "internal/strconv.uint64pow10", "math/bits.deBruijn32tab", "math/bits.deBruijn64tab"], loops := true, plainKeys := false, apart := false, laid := [("math/bits.deBruijn32tab", laid_math_bits_deBruijn32tab), ("math/bits.deBruijn64tab", laid_math_bits_deBruijn64tab), ("internal/strconv.uint64pow10", laid_internal_strconv_uint64pow10)] }
def ReplaceOutputsSaid : Prop := replaceOutputsRow.holds Tryz.pinned (OpenSpec.ofChange replaceOutputsSpec)

/-- ITS FALSE NEIGHBOUR: 'it returns false'. Refute it at one input. -/
def replaceOutputsWrong : ChangeSpec := { name := "replaceOutputs", fn := fun _ => fun
  | [d1, d2, d3] => { results := [.lit (.bool false)], args := [d1, d2, d3] }
  | _ => none }
def ReplaceOutputsWrongFalsely : Prop := replaceOutputsRow.holds Tryz.pinned (OpenSpec.ofChange replaceOutputsWrong)

/-- 'abugidalaw29.ReplaceOne': WHATEVER THE INPUT: true; the input reads as it did. -/
def replaceOneSpec : ChangeSpec := { name := "replaceOne", fn := fun _ => fun
  | [d1, d2, d3, d4, d5] => { results := [.lit (.bool true)], args := [d1, d2, d3, d4, d5] }
  | _ => none }
def replaceOneRow : OpenClaim := { program := "ytblpelldffaodaagreatdoor", sum := "2959090d15b96865ef4f77e53aa2a503a32950139c2c1dc6587f9a0b4d312f33", func := "abugida/abugidalaw29.ReplaceOne", spec := "replaceOne", inPlace := ["internal/bytealg.IndexByteString", "internal/bytealg.IndexString", "internal/abi.NoEscape", "internal/bytealg.MakeNoZero"], unfollowed := true, recurses := true, named := ["internal/bytealg.MaxLen", "internal/strconv.uint64pow10", "math/bits.deBruijn32tab", "math/bits.deBruijn64tab"], loops := true, plainKeys := false, apart := false, laid := [("math/bits.deBruijn32tab", laid_math_bits_deBruijn32tab), ("math/bits.deBruijn64tab", laid_math_bits_deBruijn64tab), ("internal/strconv.uint64pow10", laid_internal_strconv_uint64pow10)] }
def ReplaceOneSaid : Prop := replaceOneRow.holds Tryz.pinned (OpenSpec.ofChange replaceOneSpec)

/-- ITS FALSE NEIGHBOUR: 'it returns false'. Refute it at one input. -/
def replaceOneWrong : ChangeSpec := { name := "replaceOne", fn := fun _ => fun
  | [d1, d2, d3, d4, d5] => { results := [.lit (.bool false)], args := [d1, d2, d3, d4, d5] }
  | _ => none }
def ReplaceOneWrongFalsely : Prop := replaceOneRow.holds Tryz.pinned (OpenSpec.ofChange replaceOneWrong)

/-- 'abugidalaw29.ReplaceBackwards': WHATEVER THE INPUT: true; the input reads as it did. -/
def replaceBackwardsSpec : ChangeSpec := { name := "replaceBackwards", fn := fun _ => fun
  | [d1, d2, d3, d4] => { results := [.lit (.bool true)], args := [d1, d2, d3, d4] }
  | _ => none }
def replaceBackwardsRow : OpenClaim := { program := "ytblpelldffaodaagreatdoor", sum := "2959090d15b96865ef4f77e53aa2a503a32950139c2c1dc6587f9a0b4d312f33", func := "abugida/abugidalaw29.ReplaceBackwards", spec := "replaceBackwards", inPlace := ["internal/bytealg.IndexByteString", "internal/bytealg.IndexString", "internal/abi.NoEscape", "internal/bytealg.MakeNoZero"], unfollowed := true, recurses := true, named := ["internal/bytealg.MaxLen", "internal/strconv.uint64pow10", "math/bits.deBruijn32tab", "math/bits.deBruijn64tab"], loops := true, plainKeys := false, apart := false, laid := [("math/bits.deBruijn32tab", laid_math_bits_deBruijn32tab), ("math/bits.deBruijn64tab", laid_math_bits_deBruijn64tab), ("internal/strconv.uint64pow10", laid_internal_strconv_uint64pow10)] }
def ReplaceBackwardsSaid : Prop := replaceBackwardsRow.holds Tryz.pinned (OpenSpec.ofChange replaceBackwardsSpec)

/-- ITS FALSE NEIGHBOUR: 'it returns false'. Refute it at one input. -/
def replaceBackwardsWrong : ChangeSpec := { name := "replaceBackwards", fn := fun _ => fun
  | [d1, d2, d3, d4] => { results := [.lit (.bool false)], args := [d1, d2, d3, d4] }
  | _ => none }
def ReplaceBackwardsWrongFalsely : Prop := replaceBackwardsRow.holds Tryz.pinned (OpenSpec.ofChange replaceBackwardsWrong)

/-- 'abugidalaw29.ReplaceCopies': WHATEVER THE INPUT: true; the input reads as it did. -/
def replaceCopiesSpec : ChangeSpec := { name := "replaceCopies", fn := fun _ => fun
  | [d1, d2, d3, d4] => { results := [.lit (.bool true)], args := [d1, d2, d3, d4] }
  | _ => none }
def replaceCopiesRow : OpenClaim := { program := "ytblpelldffaodaagreatdoor", sum := "2959090d15b96865ef4f77e53aa2a503a32950139c2c1dc6587f9a0b4d312f33", func := "abugida/abugidalaw29.ReplaceCopies", spec := "replaceCopies", inPlace := ["internal/bytealg.IndexByteString", "internal/bytealg.IndexString", "internal/abi.NoEscape", "internal/bytealg.MakeNoZero"], unfollowed := true, recurses := true, named := ["internal/bytealg.MaxLen", "internal/strconv.uint64pow10", "math/bits.deBruijn32tab", "math/bits.deBruijn64tab"], loops := true, plainKeys := false, apart := false, laid := [("math/bits.deBruijn32tab", laid_math_bits_deBruijn32tab), ("math/bits.deBruijn64tab", laid_math_bits_deBruijn64tab), ("internal/strconv.uint64pow10", laid_internal_strconv_uint64pow10)] }
def ReplaceCopiesSaid : Prop := replaceCopiesRow.holds Tryz.pinned (OpenSpec.ofChange replaceCopiesSpec)

/-- ITS FALSE NEIGHBOUR: 'it returns false'. Refute it at one input. -/
def replaceCopiesWrong : ChangeSpec := { name := "replaceCopies", fn := fun _ => fun
  | [d1, d2, d3, d4] => { results := [.lit (.bool false)], args := [d1, d2, d3, d4] }
  | _ => none }
def ReplaceCopiesWrongFalsely : Prop := replaceCopiesRow.holds Tryz.pinned (OpenSpec.ofChange replaceCopiesWrong)

/-- 'abugidalaw29.ReplaceMarked': WHATEVER THE INPUT: true; the input reads as it did. -/
def replaceMarkedSpec : ChangeSpec := { name := "replaceMarked", fn := fun _ => fun
  | [d1, d2, d3, d4] => { results := [.lit (.bool true)], args := [d1, d2, d3, d4] }
  | _ => none }
def replaceMarkedRow : OpenClaim := { program := "ytblpelldffaodaagreatdoor", sum := "2959090d15b96865ef4f77e53aa2a503a32950139c2c1dc6587f9a0b4d312f33", func := "abugida/abugidalaw29.ReplaceMarked", spec := "replaceMarked", inPlace := ["internal/bytealg.IndexByteString", "internal/bytealg.IndexString", "internal/abi.NoEscape", "internal/bytealg.MakeNoZero"], unfollowed := true, recurses := true, named := ["internal/bytealg.MaxLen", "internal/strconv.uint64pow10", "math/bits.deBruijn32tab", "math/bits.deBruijn64tab"], loops := true, plainKeys := false, apart := false, laid := [("math/bits.deBruijn32tab", laid_math_bits_deBruijn32tab), ("math/bits.deBruijn64tab", laid_math_bits_deBruijn64tab), ("internal/strconv.uint64pow10", laid_internal_strconv_uint64pow10)] }
def ReplaceMarkedSaid : Prop := replaceMarkedRow.holds Tryz.pinned (OpenSpec.ofChange replaceMarkedSpec)

/-- ITS FALSE NEIGHBOUR: 'it returns false'. Refute it at one input. -/
def replaceMarkedWrong : ChangeSpec := { name := "replaceMarked", fn := fun _ => fun
  | [d1, d2, d3, d4] => { results := [.lit (.bool false)], args := [d1, d2, d3, d4] }
  | _ => none }
def ReplaceMarkedWrongFalsely : Prop := replaceMarkedRow.holds Tryz.pinned (OpenSpec.ofChange replaceMarkedWrong)

/-- 'abugidalaw29.ReplaceMarks': WHATEVER THE INPUT: true; the input reads as it did. -/
def replaceMarksSpec : ChangeSpec := { name := "replaceMarks", fn := fun _ => fun
  | [d1, d2, d3, d4, d5] => { results := [.lit (.bool true)], args := [d1, d2, d3, d4, d5] }
  | _ => none }
def replaceMarksRow : OpenClaim := { program := "ytblpelldffaodaagreatdoor", sum := "2959090d15b96865ef4f77e53aa2a503a32950139c2c1dc6587f9a0b4d312f33", func := "abugida/abugidalaw29.ReplaceMarks", spec := "replaceMarks", inPlace := ["internal/bytealg.IndexByteString", "internal/bytealg.IndexString", "internal/abi.NoEscape", "internal/bytealg.MakeNoZero"], unfollowed := true, recurses := true, named := ["internal/bytealg.MaxLen", "internal/strconv.uint64pow10", "math/bits.deBruijn32tab", "math/bits.deBruijn64tab"], loops := true, plainKeys := false, apart := false, laid := [("math/bits.deBruijn32tab", laid_math_bits_deBruijn32tab), ("math/bits.deBruijn64tab", laid_math_bits_deBruijn64tab), ("internal/strconv.uint64pow10", laid_internal_strconv_uint64pow10)] }
def ReplaceMarksSaid : Prop := replaceMarksRow.holds Tryz.pinned (OpenSpec.ofChange replaceMarksSpec)

/-- ITS FALSE NEIGHBOUR: 'it returns false'. Refute it at one input. -/
def replaceMarksWrong : ChangeSpec := { name := "replaceMarks", fn := fun _ => fun
  | [d1, d2, d3, d4, d5] => { results := [.lit (.bool false)], args := [d1, d2, d3, d4, d5] }
  | _ => none }
def ReplaceMarksWrongFalsely : Prop := replaceMarksRow.holds Tryz.pinned (OpenSpec.ofChange replaceMarksWrong)

/- THE SECOND FORM. 'bulk': how many values and letters a reading holds, each counted each time it is reached (what is shared counts as often as it is met; a slice's spare places count too). A statement '..UptoSaid' is the law's where the arguments, and the package variables that the reading takes, are together of bulk at most 1048576: NARROWER than '..Said'. Prove '..Said' where nothing that the law and all that it calls make is longer than what came in: it says more and counts as full. Else prove '..UptoSaid'. A law counts once. -/
mutual
def uptoBulk {H : Type} : DataW H → Nat
  | .lit (.string bytes) => bytes.length + 1
  | .lit _ => 1
  | .nil => 1
  | .ptr d => uptoBulk d + 1
  | .slice elems spare => uptoBulkAll elems + uptoBulkAll spare + 1
  | .agg parts => uptoBulkAll parts + 1
  | .iface _ d => uptoBulk d + 1
  | .map entries => uptoBulkEntries entries + 1
  | .held _ => 1
def uptoBulkAll {H : Type} : List (DataW H) → Nat
  | [] => 0
  | d :: r => uptoBulk d + uptoBulkAll r
def uptoBulkEntries {H : Type} : List (Lit × DataW H) → Nat
  | [] => 0
  | x :: r => uptoBulkEntry x + uptoBulkEntries r
def uptoBulkEntry {H : Type} : Lit × DataW H → Nat
  | (.string bytes, d) => bytes.length + uptoBulk d + 1
  | (_, d) => uptoBulk d + 1
 end
def uptoSmall : (H : Type) → List (DataW H) → Bool := fun _ ds => decide (uptoBulkAll ds ≤ 1048576)
def OpenSpec.upto (s : _root_.Go.ChangeSpec) : _root_.Go.OpenSpec := { _root_.Go.OpenSpec.ofChange s with cond := some uptoSmall }

/-- 'abugidalaw29.ReplaceExamples', WHERE WHAT IT READS IS OF BULK AT MOST 1048576: true; the input reads as it did. -/
def replaceExamplesUptoRow : OpenClaim := { program := "ytblpelldffaodaagreatdoor", sum := "2959090d15b96865ef4f77e53aa2a503a32950139c2c1dc6587f9a0b4d312f33", func := "abugida/abugidalaw29.ReplaceExamples", spec := "replaceExamples", inPlace := ["internal/bytealg.IndexByteString", "internal/bytealg.IndexString", "internal/abi.NoEscape", "internal/bytealg.MakeNoZero"], unfollowed := true, recurses := true, named := ["internal/bytealg.MaxLen", "internal/strconv.uint64pow10", "math/bits.deBruijn32tab", "math/bits.deBruijn64tab"], plainKeys := false, apart := false, laid := [("math/bits.deBruijn32tab", laid_math_bits_deBruijn32tab), ("math/bits.deBruijn64tab", laid_math_bits_deBruijn64tab), ("internal/strconv.uint64pow10", laid_internal_strconv_uint64pow10)], narrowed := true }
def ReplaceExamplesUptoSaid : Prop := replaceExamplesUptoRow.holds Tryz.pinned (OpenSpec.upto replaceExamplesSpec)

/-- 'abugidalaw29.ReplaceYields', WHERE WHAT IT READS IS OF BULK AT MOST 1048576: true; the input reads as it did. -/
def replaceYieldsUptoRow : OpenClaim := { program := "ytblpelldffaodaagreatdoor", sum := "2959090d15b96865ef4f77e53aa2a503a32950139c2c1dc6587f9a0b4d312f33", func := "abugida/abugidalaw29.ReplaceYields", spec := "replaceYields", inPlace := ["internal/bytealg.IndexByteString", "internal/bytealg.IndexString", "internal/abi.NoEscape", "internal/bytealg.MakeNoZero"], unfollowed := true, recurses := true, named := ["internal/bytealg.MaxLen", "internal/strconv.uint64pow10", "math/bits.deBruijn32tab", "math/bits.deBruijn64tab"], loops := true, plainKeys := false, apart := false, laid := [("math/bits.deBruijn32tab", laid_math_bits_deBruijn32tab), ("math/bits.deBruijn64tab", laid_math_bits_deBruijn64tab), ("internal/strconv.uint64pow10", laid_internal_strconv_uint64pow10)], narrowed := true }
def ReplaceYieldsUptoSaid : Prop := replaceYieldsUptoRow.holds Tryz.pinned (OpenSpec.upto replaceYieldsSpec)

/-- 'abugidalaw29.ReplaceOutputs', WHERE WHAT IT READS IS OF BULK AT MOST 1048576: true; the input reads as it did. -/
def replaceOutputsUptoRow : OpenClaim := { program := "ytblpelldffaodaagreatdoor", sum := "2959090d15b96865ef4f77e53aa2a503a32950139c2c1dc6587f9a0b4d312f33", func := "abugida/abugidalaw29.ReplaceOutputs", spec := "replaceOutputs", inPlace := ["internal/bytealg.IndexByteString", "internal/bytealg.IndexString", "internal/abi.NoEscape", "internal/bytealg.MakeNoZero"], unfollowed := true, recurses := true, named := ["internal/bytealg.MaxLen", "internal/strconv.uint64pow10", "math/bits.deBruijn32tab", "math/bits.deBruijn64tab"], loops := true, plainKeys := false, apart := false, laid := [("math/bits.deBruijn32tab", laid_math_bits_deBruijn32tab), ("math/bits.deBruijn64tab", laid_math_bits_deBruijn64tab), ("internal/strconv.uint64pow10", laid_internal_strconv_uint64pow10)], narrowed := true }
def ReplaceOutputsUptoSaid : Prop := replaceOutputsUptoRow.holds Tryz.pinned (OpenSpec.upto replaceOutputsSpec)

/-- 'abugidalaw29.ReplaceOne', WHERE WHAT IT READS IS OF BULK AT MOST 1048576: true; the input reads as it did. -/
def replaceOneUptoRow : OpenClaim := { program := "ytblpelldffaodaagreatdoor", sum := "2959090d15b96865ef4f77e53aa2a503a32950139c2c1dc6587f9a0b4d312f33", func := "abugida/abugidalaw29.ReplaceOne", spec := "replaceOne", inPlace := ["internal/bytealg.IndexByteString", "internal/bytealg.IndexString", "internal/abi.NoEscape", "internal/bytealg.MakeNoZero"], unfollowed := true, recurses := true, named := ["internal/bytealg.MaxLen", "internal/strconv.uint64pow10", "math/bits.deBruijn32tab", "math/bits.deBruijn64tab"], loops := true, plainKeys := false, apart := false, laid := [("math/bits.deBruijn32tab", laid_math_bits_deBruijn32tab), ("math/bits.deBruijn64tab", laid_math_bits_deBruijn64tab), ("internal/strconv.uint64pow10", laid_internal_strconv_uint64pow10)], narrowed := true }
def ReplaceOneUptoSaid : Prop := replaceOneUptoRow.holds Tryz.pinned (OpenSpec.upto replaceOneSpec)

/-- 'abugidalaw29.ReplaceBackwards', WHERE WHAT IT READS IS OF BULK AT MOST 1048576: true; the input reads as it did. -/
def replaceBackwardsUptoRow : OpenClaim := { program := "ytblpelldffaodaagreatdoor", sum := "2959090d15b96865ef4f77e53aa2a503a32950139c2c1dc6587f9a0b4d312f33", func := "abugida/abugidalaw29.ReplaceBackwards", spec := "replaceBackwards", inPlace := ["internal/bytealg.IndexByteString", "internal/bytealg.IndexString", "internal/abi.NoEscape", "internal/bytealg.MakeNoZero"], unfollowed := true, recurses := true, named := ["internal/bytealg.MaxLen", "internal/strconv.uint64pow10", "math/bits.deBruijn32tab", "math/bits.deBruijn64tab"], loops := true, plainKeys := false, apart := false, laid := [("math/bits.deBruijn32tab", laid_math_bits_deBruijn32tab), ("math/bits.deBruijn64tab", laid_math_bits_deBruijn64tab), ("internal/strconv.uint64pow10", laid_internal_strconv_uint64pow10)], narrowed := true }
def ReplaceBackwardsUptoSaid : Prop := replaceBackwardsUptoRow.holds Tryz.pinned (OpenSpec.upto replaceBackwardsSpec)

/-- 'abugidalaw29.ReplaceCopies', WHERE WHAT IT READS IS OF BULK AT MOST 1048576: true; the input reads as it did. -/
def replaceCopiesUptoRow : OpenClaim := { program := "ytblpelldffaodaagreatdoor", sum := "2959090d15b96865ef4f77e53aa2a503a32950139c2c1dc6587f9a0b4d312f33", func := "abugida/abugidalaw29.ReplaceCopies", spec := "replaceCopies", inPlace := ["internal/bytealg.IndexByteString", "internal/bytealg.IndexString", "internal/abi.NoEscape", "internal/bytealg.MakeNoZero"], unfollowed := true, recurses := true, named := ["internal/bytealg.MaxLen", "internal/strconv.uint64pow10", "math/bits.deBruijn32tab", "math/bits.deBruijn64tab"], loops := true, plainKeys := false, apart := false, laid := [("math/bits.deBruijn32tab", laid_math_bits_deBruijn32tab), ("math/bits.deBruijn64tab", laid_math_bits_deBruijn64tab), ("internal/strconv.uint64pow10", laid_internal_strconv_uint64pow10)], narrowed := true }
def ReplaceCopiesUptoSaid : Prop := replaceCopiesUptoRow.holds Tryz.pinned (OpenSpec.upto replaceCopiesSpec)

/-- 'abugidalaw29.ReplaceMarked', WHERE WHAT IT READS IS OF BULK AT MOST 1048576: true; the input reads as it did. -/
def replaceMarkedUptoRow : OpenClaim := { program := "ytblpelldffaodaagreatdoor", sum := "2959090d15b96865ef4f77e53aa2a503a32950139c2c1dc6587f9a0b4d312f33", func := "abugida/abugidalaw29.ReplaceMarked", spec := "replaceMarked", inPlace := ["internal/bytealg.IndexByteString", "internal/bytealg.IndexString", "internal/abi.NoEscape", "internal/bytealg.MakeNoZero"], unfollowed := true, recurses := true, named := ["internal/bytealg.MaxLen", "internal/strconv.uint64pow10", "math/bits.deBruijn32tab", "math/bits.deBruijn64tab"], loops := true, plainKeys := false, apart := false, laid := [("math/bits.deBruijn32tab", laid_math_bits_deBruijn32tab), ("math/bits.deBruijn64tab", laid_math_bits_deBruijn64tab), ("internal/strconv.uint64pow10", laid_internal_strconv_uint64pow10)], narrowed := true }
def ReplaceMarkedUptoSaid : Prop := replaceMarkedUptoRow.holds Tryz.pinned (OpenSpec.upto replaceMarkedSpec)

/-- 'abugidalaw29.ReplaceMarks', WHERE WHAT IT READS IS OF BULK AT MOST 1048576: true; the input reads as it did. -/
def replaceMarksUptoRow : OpenClaim := { program := "ytblpelldffaodaagreatdoor", sum := "2959090d15b96865ef4f77e53aa2a503a32950139c2c1dc6587f9a0b4d312f33", func := "abugida/abugidalaw29.ReplaceMarks", spec := "replaceMarks", inPlace := ["internal/bytealg.IndexByteString", "internal/bytealg.IndexString", "internal/abi.NoEscape", "internal/bytealg.MakeNoZero"], unfollowed := true, recurses := true, named := ["internal/bytealg.MaxLen", "internal/strconv.uint64pow10", "math/bits.deBruijn32tab", "math/bits.deBruijn64tab"], loops := true, plainKeys := false, apart := false, laid := [("math/bits.deBruijn32tab", laid_math_bits_deBruijn32tab), ("math/bits.deBruijn64tab", laid_math_bits_deBruijn64tab), ("internal/strconv.uint64pow10", laid_internal_strconv_uint64pow10)], narrowed := true }
def ReplaceMarksUptoSaid : Prop := replaceMarksUptoRow.holds Tryz.pinned (OpenSpec.upto replaceMarksSpec)

end Rows
end Go.Proofs.YtblpelldffaodaaGreatDoor
