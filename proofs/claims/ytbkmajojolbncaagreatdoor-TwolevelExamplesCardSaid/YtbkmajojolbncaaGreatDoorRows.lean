/-
  NARROWER THAN 'FOR EVERY INPUT', by the rows' own cells (each row's printed sentence says how): TwolevelExamples: laid · TwolevelObeys: loops, laid · TwolevelCompiles: loops, laid · TwolevelRelates: loops, laid · TwolevelPairs: loops, laid · TwolevelBoth: loops, laid · TwolevelMore: loops, laid.
  DERIVED. THE GIVEN ROWS OF THIS SEAT. 7 by the template 'for every input the law returns true; each argument reads behind the call as it read before'; 0 by the template 'total and deterministic' (their statements: YtbkmajojolbncaaGreatDoorTotals.lean).
  GIVEN WITH THE SEED: the statements are not yours to turn. If you find one false, say at which input.
  Laid BY PROGRAM, IN A SANDBOX (cutbox-rows.mjs): the forced cells as the released guide's own fill.sh prints them over the translation 71c0d6aba1223ceb… (all of the seat's roots in one cut). By AI agents, Wed Nov 11 2026. No macro, syntax, notation, axiom, sorry.
-/
import Derived.Test.YtbkmajojolbncaaGreatDoorChecked
import GoSem.Claim
import GoSem.ClaimJoined
import GoSem.ClaimMapViews
import Derived.JoinedTies
import Derived.KernelRfl
namespace Go.Proofs.YtbkmajojolbncaaGreatDoor
/- THE CELL 'sum', in the pinned program and in every row, IS THE sha256 OF THE DUMP (.gsa) THAT YtbkmajojolbncaaGreatDoorProg.lean LOADS. Nothing in Lean hashes anything: it is a label: what it is worth is what the hold of that sum in a sandbox is worth. -/
noncomputable def Tryz.pinned : Pinned := { name := "ytbkmajojolbncaagreatdoor", sum := "71c0d6aba1223ceba6ee2f816d32f9ec2b8593a667089c1a766139c4bbf5b043", checked := Tryz.checked }
namespace Rows
def none {H : Type} : Left H := { results := [], args := [] }

/- WHAT THE LISTED PACKAGE-LEVEL VARIABLES READ AS WHEN THE CALL BEGINS. Each datum BY PROGRAM (the guide's laid-datum.mjs) off the statement by which the dump's own 'gosem.cut.vars' lays the variable. In a bare row this is a premise. The card (YtbkmajojolbncaaGreatDoorCards.lean) ties it to the program's text. -/
def laid_math_bits_deBruijn32tab {H : Type} : DataW H := .agg [.lit (.int .u8 0), .lit (.int .u8 1), .lit (.int .u8 28), .lit (.int .u8 2), .lit (.int .u8 29), .lit (.int .u8 14), .lit (.int .u8 24), .lit (.int .u8 3), .lit (.int .u8 30), .lit (.int .u8 22), .lit (.int .u8 20), .lit (.int .u8 15), .lit (.int .u8 25), .lit (.int .u8 17), .lit (.int .u8 4), .lit (.int .u8 8), .lit (.int .u8 31), .lit (.int .u8 27), .lit (.int .u8 13), .lit (.int .u8 23), .lit (.int .u8 21), .lit (.int .u8 19), .lit (.int .u8 16), .lit (.int .u8 7), .lit (.int .u8 26), .lit (.int .u8 12), .lit (.int .u8 18), .lit (.int .u8 6), .lit (.int .u8 11), .lit (.int .u8 5), .lit (.int .u8 10), .lit (.int .u8 9)]
def laid_math_bits_deBruijn64tab {H : Type} : DataW H := .agg [.lit (.int .u8 0), .lit (.int .u8 1), .lit (.int .u8 56), .lit (.int .u8 2), .lit (.int .u8 57), .lit (.int .u8 49), .lit (.int .u8 28), .lit (.int .u8 3), .lit (.int .u8 61), .lit (.int .u8 58), .lit (.int .u8 42), .lit (.int .u8 50), .lit (.int .u8 38), .lit (.int .u8 29), .lit (.int .u8 17), .lit (.int .u8 4), .lit (.int .u8 62), .lit (.int .u8 47), .lit (.int .u8 59), .lit (.int .u8 36), .lit (.int .u8 45), .lit (.int .u8 43), .lit (.int .u8 51), .lit (.int .u8 22), .lit (.int .u8 53), .lit (.int .u8 39), .lit (.int .u8 33), .lit (.int .u8 30), .lit (.int .u8 24), .lit (.int .u8 18), .lit (.int .u8 12), .lit (.int .u8 5), .lit (.int .u8 63), .lit (.int .u8 55), .lit (.int .u8 48), .lit (.int .u8 27), .lit (.int .u8 60), .lit (.int .u8 41), .lit (.int .u8 37), .lit (.int .u8 16), .lit (.int .u8 46), .lit (.int .u8 35), .lit (.int .u8 44), .lit (.int .u8 21), .lit (.int .u8 52), .lit (.int .u8 32), .lit (.int .u8 23), .lit (.int .u8 11), .lit (.int .u8 54), .lit (.int .u8 26), .lit (.int .u8 40), .lit (.int .u8 15), .lit (.int .u8 34), .lit (.int .u8 20), .lit (.int .u8 31), .lit (.int .u8 10), .lit (.int .u8 25), .lit (.int .u8 14), .lit (.int .u8 19), .lit (.int .u8 9), .lit (.int .u8 13), .lit (.int .u8 8), .lit (.int .u8 7), .lit (.int .u8 6)]
def laid_internal_strconv_uint64pow10 {H : Type} : DataW H := .agg [.lit (.int .u64 1), .lit (.int .u64 10), .lit (.int .u64 100), .lit (.int .u64 1000), .lit (.int .u64 10000), .lit (.int .u64 100000), .lit (.int .u64 1000000), .lit (.int .u64 10000000), .lit (.int .u64 100000000), .lit (.int .u64 1000000000), .lit (.int .u64 10000000000), .lit (.int .u64 100000000000), .lit (.int .u64 1000000000000), .lit (.int .u64 10000000000000), .lit (.int .u64 100000000000000), .lit (.int .u64 1000000000000000), .lit (.int .u64 10000000000000000), .lit (.int .u64 100000000000000000), .lit (.int .u64 1000000000000000000), .lit (.int .u64 10000000000000000000)]

/-- 'abugidalaw25.TwolevelExamples': WHATEVER THE INPUT: true; the input reads as it did. -/
def twolevelExamplesSpec : ChangeSpec := { name := "twolevelExamples", fn := fun _ => fun
  | [] => { results := [.lit (.bool true)], args := [] }
  | _ => none }
def twolevelExamplesRow : OpenClaim := { program := "ytbkmajojolbncaagreatdoor", sum := "71c0d6aba1223ceba6ee2f816d32f9ec2b8593a667089c1a766139c4bbf5b043", func := "abugida/abugidalaw25.TwolevelExamples", spec := "twolevelExamples", inPlace := ["internal/bytealg.IndexByteString", "internal/bytealg.IndexString", "internal/abi.NoEscape", "internal/bytealg.MakeNoZero"], unfollowed := true, recurses := true, named := ["internal/bytealg.MaxLen", "internal/strconv.uint64pow10", "math/bits.deBruijn32tab", "math/bits.deBruijn64tab"], plainKeys := false, apart := false, laid := [("math/bits.deBruijn32tab", laid_math_bits_deBruijn32tab), ("math/bits.deBruijn64tab", laid_math_bits_deBruijn64tab), ("internal/strconv.uint64pow10", laid_internal_strconv_uint64pow10)] }
def TwolevelExamplesSaid : Prop := twolevelExamplesRow.holds Tryz.pinned (OpenSpec.ofChange twolevelExamplesSpec)

/-- ITS FALSE NEIGHBOUR: 'it returns false'. Refute it at one input. -/
def twolevelExamplesWrong : ChangeSpec := { name := "twolevelExamples", fn := fun _ => fun
  | [] => { results := [.lit (.bool false)], args := [] }
  | _ => none }
def TwolevelExamplesWrongFalsely : Prop := twolevelExamplesRow.holds Tryz.pinned (OpenSpec.ofChange twolevelExamplesWrong)

/-- 'abugidalaw25.TwolevelObeys': WHATEVER THE INPUT: true; the input reads as it did. -/
def twolevelObeysSpec : ChangeSpec := { name := "twolevelObeys", fn := fun _ => fun
  | [d1, d2, d3] => { results := [.lit (.bool true)], args := [d1, d2, d3] }
  | _ => none }
def twolevelObeysRow : OpenClaim := { program := "ytbkmajojolbncaagreatdoor", sum := "71c0d6aba1223ceba6ee2f816d32f9ec2b8593a667089c1a766139c4bbf5b043", func := "abugida/abugidalaw25.TwolevelObeys", spec := "twolevelObeys", inPlace := ["internal/bytealg.IndexByteString", "internal/bytealg.IndexString", "internal/abi.NoEscape", "internal/bytealg.MakeNoZero"], unfollowed := true, recurses := true, named := ["internal/bytealg.MaxLen", "internal/strconv.uint64pow10", "math/bits.deBruijn32tab", "math/bits.deBruijn64tab"], loops := true, plainKeys := false, apart := false, laid := [("math/bits.deBruijn32tab", laid_math_bits_deBruijn32tab), ("math/bits.deBruijn64tab", laid_math_bits_deBruijn64tab), ("internal/strconv.uint64pow10", laid_internal_strconv_uint64pow10)] }
def TwolevelObeysSaid : Prop := twolevelObeysRow.holds Tryz.pinned (OpenSpec.ofChange twolevelObeysSpec)

/-- ITS FALSE NEIGHBOUR: 'it returns false'. Refute it at one input. -/
def twolevelObeysWrong : ChangeSpec := { name := "twolevelObeys", fn := fun _ => fun
  | [d1, d2, d3] => { results := [.lit (.bool false)], args := [d1, d2, d3] }
  | _ => none }
def TwolevelObeysWrongFalsely : Prop := twolevelObeysRow.holds Tryz.pinned (OpenSpec.ofChange twolevelObeysWrong)

/-- 'abugidalaw25.TwolevelCompiles': WHATEVER THE INPUT: true; the input reads as it did. -/
def twolevelCompilesSpec : ChangeSpec := { name := "twolevelCompiles", fn := fun _ => fun
  | [d1, d2, d3] => { results := [.lit (.bool true)], args := [d1, d2, d3] }
  | _ => none }
def twolevelCompilesRow : OpenClaim := { program := "ytbkmajojolbncaagreatdoor", sum := "71c0d6aba1223ceba6ee2f816d32f9ec2b8593a667089c1a766139c4bbf5b043", func := "abugida/abugidalaw25.TwolevelCompiles", spec := "twolevelCompiles", inPlace := ["internal/bytealg.IndexByteString", "internal/bytealg.IndexString", "internal/abi.NoEscape", "internal/bytealg.MakeNoZero"], unfollowed := true, recurses := true, named := ["internal/bytealg.MaxLen", "internal/strconv.uint64pow10", "math/bits.deBruijn32tab", "math/bits.deBruijn64tab"], loops := true, plainKeys := false, apart := false, laid := [("math/bits.deBruijn32tab", laid_math_bits_deBruijn32tab), ("math/bits.deBruijn64tab", laid_math_bits_deBruijn64tab), ("internal/strconv.uint64pow10", laid_internal_strconv_uint64pow10)] }
def TwolevelCompilesSaid : Prop := twolevelCompilesRow.holds Tryz.pinned (OpenSpec.ofChange twolevelCompilesSpec)

/-- ITS FALSE NEIGHBOUR: 'it returns false'. Refute it at one input. -/
def twolevelCompilesWrong : ChangeSpec := { name := "twolevelCompiles", fn := fun _ => fun
  | [d1, d2, d3] => { results := [.lit (.bool false)], args := [d1, d2, d3] }
  | _ => none }
def TwolevelCompilesWrongFalsely : Prop := twolevelCompilesRow.holds Tryz.pinned (OpenSpec.ofChange twolevelCompilesWrong)

/-- 'abugidalaw25.TwolevelRelates': WHATEVER THE INPUT: true; the input reads as it did. -/
def twolevelRelatesSpec : ChangeSpec := { name := "twolevelRelates", fn := fun _ => fun
  | [d1, d2] => { results := [.lit (.bool true)], args := [d1, d2] }
  | _ => none }
def twolevelRelatesRow : OpenClaim := { program := "ytbkmajojolbncaagreatdoor", sum := "71c0d6aba1223ceba6ee2f816d32f9ec2b8593a667089c1a766139c4bbf5b043", func := "abugida/abugidalaw25.TwolevelRelates", spec := "twolevelRelates", inPlace := ["internal/bytealg.IndexByteString", "internal/bytealg.IndexString", "internal/abi.NoEscape", "internal/bytealg.MakeNoZero"], unfollowed := true, recurses := true, named := ["internal/bytealg.MaxLen", "internal/strconv.uint64pow10", "math/bits.deBruijn32tab", "math/bits.deBruijn64tab"], loops := true, plainKeys := false, apart := false, laid := [("math/bits.deBruijn32tab", laid_math_bits_deBruijn32tab), ("math/bits.deBruijn64tab", laid_math_bits_deBruijn64tab), ("internal/strconv.uint64pow10", laid_internal_strconv_uint64pow10)] }
def TwolevelRelatesSaid : Prop := twolevelRelatesRow.holds Tryz.pinned (OpenSpec.ofChange twolevelRelatesSpec)

/-- ITS FALSE NEIGHBOUR: 'it returns false'. Refute it at one input. -/
def twolevelRelatesWrong : ChangeSpec := { name := "twolevelRelates", fn := fun _ => fun
  | [d1, d2] => { results := [.lit (.bool false)], args := [d1, d2] }
  | _ => none }
def TwolevelRelatesWrongFalsely : Prop := twolevelRelatesRow.holds Tryz.pinned (OpenSpec.ofChange twolevelRelatesWrong)

/-- 'abugidalaw25.TwolevelPairs': WHATEVER THE INPUT: true; the input reads as it did. -/
def twolevelPairsSpec : ChangeSpec := { name := "twolevelPairs", fn := fun _ => fun
  | [d1, d2, d3] => { results := [.lit (.bool true)], args := [d1, d2, d3] }
  | _ => none }
def twolevelPairsRow : OpenClaim := { program := "ytbkmajojolbncaagreatdoor", sum := "71c0d6aba1223ceba6ee2f816d32f9ec2b8593a667089c1a766139c4bbf5b043", func := "abugida/abugidalaw25.TwolevelPairs", spec := "twolevelPairs", inPlace := ["internal/bytealg.IndexByteString", "internal/bytealg.IndexString", "internal/abi.NoEscape", "internal/bytealg.MakeNoZero"], unfollowed := true, recurses := true, named := ["internal/bytealg.MaxLen", "internal/strconv.uint64pow10", "math/bits.deBruijn32tab", "math/bits.deBruijn64tab"], loops := true, plainKeys := false, apart := false, laid := [("math/bits.deBruijn32tab", laid_math_bits_deBruijn32tab), ("math/bits.deBruijn64tab", laid_math_bits_deBruijn64tab), ("internal/strconv.uint64pow10", laid_internal_strconv_uint64pow10)] }
def TwolevelPairsSaid : Prop := twolevelPairsRow.holds Tryz.pinned (OpenSpec.ofChange twolevelPairsSpec)

/-- ITS FALSE NEIGHBOUR: 'it returns false'. Refute it at one input. -/
def twolevelPairsWrong : ChangeSpec := { name := "twolevelPairs", fn := fun _ => fun
  | [d1, d2, d3] => { results := [.lit (.bool false)], args := [d1, d2, d3] }
  | _ => none }
def TwolevelPairsWrongFalsely : Prop := twolevelPairsRow.holds Tryz.pinned (OpenSpec.ofChange twolevelPairsWrong)

/-- 'abugidalaw25.TwolevelBoth': WHATEVER THE INPUT: true; the input reads as it did. -/
def twolevelBothSpec : ChangeSpec := { name := "twolevelBoth", fn := fun _ => fun
  | [d1, d2, d3] => { results := [.lit (.bool true)], args := [d1, d2, d3] }
  | _ => none }
def twolevelBothRow : OpenClaim := { program := "ytbkmajojolbncaagreatdoor", sum := "71c0d6aba1223ceba6ee2f816d32f9ec2b8593a667089c1a766139c4bbf5b043", func := "abugida/abugidalaw25.TwolevelBoth", spec := "twolevelBoth", inPlace := ["internal/bytealg.IndexByteString", "internal/bytealg.IndexString", "internal/abi.NoEscape", "internal/bytealg.MakeNoZero"], unfollowed := true, recurses := true, named := ["internal/bytealg.MaxLen", "internal/strconv.uint64pow10", "math/bits.deBruijn32tab", "math/bits.deBruijn64tab"], loops := true, plainKeys := false, apart := false, laid := [("math/bits.deBruijn32tab", laid_math_bits_deBruijn32tab), ("math/bits.deBruijn64tab", laid_math_bits_deBruijn64tab), ("internal/strconv.uint64pow10", laid_internal_strconv_uint64pow10)] }
def TwolevelBothSaid : Prop := twolevelBothRow.holds Tryz.pinned (OpenSpec.ofChange twolevelBothSpec)

/-- ITS FALSE NEIGHBOUR: 'it returns false'. Refute it at one input. -/
def twolevelBothWrong : ChangeSpec := { name := "twolevelBoth", fn := fun _ => fun
  | [d1, d2, d3] => { results := [.lit (.bool false)], args := [d1, d2, d3] }
  | _ => none }
def TwolevelBothWrongFalsely : Prop := twolevelBothRow.holds Tryz.pinned (OpenSpec.ofChange twolevelBothWrong)

/-- 'abugidalaw25.TwolevelMore': WHATEVER THE INPUT: true; the input reads as it did. -/
def twolevelMoreSpec : ChangeSpec := { name := "twolevelMore", fn := fun _ => fun
  | [d1, d2] => { results := [.lit (.bool true)], args := [d1, d2] }
  | _ => none }
def twolevelMoreRow : OpenClaim := { program := "ytbkmajojolbncaagreatdoor", sum := "71c0d6aba1223ceba6ee2f816d32f9ec2b8593a667089c1a766139c4bbf5b043", func := "abugida/abugidalaw25.TwolevelMore", spec := "twolevelMore", inPlace := ["internal/bytealg.IndexByteString", "internal/bytealg.IndexString", "internal/abi.NoEscape", "internal/bytealg.MakeNoZero"], unfollowed := true, recurses := true, named := ["internal/bytealg.MaxLen", "internal/strconv.uint64pow10", "math/bits.deBruijn32tab", "math/bits.deBruijn64tab"], loops := true, plainKeys := false, apart := false, laid := [("math/bits.deBruijn32tab", laid_math_bits_deBruijn32tab), ("math/bits.deBruijn64tab", laid_math_bits_deBruijn64tab), ("internal/strconv.uint64pow10", laid_internal_strconv_uint64pow10)] }
def TwolevelMoreSaid : Prop := twolevelMoreRow.holds Tryz.pinned (OpenSpec.ofChange twolevelMoreSpec)

/-- ITS FALSE NEIGHBOUR: 'it returns false'. Refute it at one input. -/
def twolevelMoreWrong : ChangeSpec := { name := "twolevelMore", fn := fun _ => fun
  | [d1, d2] => { results := [.lit (.bool false)], args := [d1, d2] }
  | _ => none }
def TwolevelMoreWrongFalsely : Prop := twolevelMoreRow.holds Tryz.pinned (OpenSpec.ofChange twolevelMoreWrong)

/- THE SECOND FORM. 'bulk': how many values and letters a reading holds, each counted each time it is reached (what is shared counts as often as it is met; a slice's spare places count too). A statement '..UptoSaid' is the law's where the arguments, and the package variables that the reading takes, are together of bulk at most 1048576: NARROWER than '..Said'. Prove '..Said' where nothing that the law and all that it calls make is longer than what came in: it says more and counts as full. Else prove '..UptoSaid'. A law counts once. -/
mutual
def uptoBulk {H : Type} : DataW H → Nat
  | .lit (.string bytes) => bytes.length + 1
  | .lit _ => 1
  | .nil => 1
  | .ptr d => uptoBulk d + 1
  | .slice elems spare => uptoBulkAll elems + uptoBulkAll spare + 1
  | .agg parts => uptoBulkAll parts + 1
  | .iface _ d => uptoBulk d + 1
  | .map entries => uptoBulkEntries entries + 1
  | .held _ => 1
def uptoBulkAll {H : Type} : List (DataW H) → Nat
  | [] => 0
  | d :: r => uptoBulk d + uptoBulkAll r
def uptoBulkEntries {H : Type} : List (Lit × DataW H) → Nat
  | [] => 0
  | x :: r => uptoBulkEntry x + uptoBulkEntries r
def uptoBulkEntry {H : Type} : Lit × DataW H → Nat
  | (.string bytes, d) => bytes.length + uptoBulk d + 1
  | (_, d) => uptoBulk d + 1
 end
def uptoSmall : (H : Type) → List (DataW H) → Bool := fun _ ds => decide (uptoBulkAll ds ≤ 1048576)
def OpenSpec.upto (s : _root_.Go.ChangeSpec) : _root_.Go.OpenSpec := { _root_.Go.OpenSpec.ofChange s with cond := some uptoSmall }

/-- 'abugidalaw25.TwolevelExamples', WHERE WHAT IT READS IS OF BULK AT MOST 1048576: true; the input reads as it did. -/
def twolevelExamplesUptoRow : OpenClaim := { program := "ytbkmajojolbncaagreatdoor", sum := "71c0d6aba1223ceba6ee2f816d32f9ec2b8593a667089c1a766139c4bbf5b043", func := "abugida/abugidalaw25.TwolevelExamples", spec := "twolevelExamples", inPlace := ["internal/bytealg.IndexByteString", "internal/bytealg.IndexString", "internal/abi.NoEscape", "internal/bytealg.MakeNoZero"], unfollowed := true, recurses := true, named := ["internal/bytealg.MaxLen", "internal/strconv.uint64pow10", "math/bits.deBruijn32tab", "math/bits.deBruijn64tab"], plainKeys := false, apart := false, laid := [("math/bits.deBruijn32tab", laid_math_bits_deBruijn32tab), ("math/bits.deBruijn64tab", laid_math_bits_deBruijn64tab), ("internal/strconv.uint64pow10", laid_internal_strconv_uint64pow10)], narrowed := true }
def TwolevelExamplesUptoSaid : Prop := twolevelExamplesUptoRow.holds Tryz.pinned (OpenSpec.upto twolevelExamplesSpec)

/-- 'abugidalaw25.TwolevelObeys', WHERE WHAT IT READS IS OF BULK AT MOST 1048576: true; the input reads as it did. -/
def twolevelObeysUptoRow : OpenClaim := { program := "ytbkmajojolbncaagreatdoor", sum := "71c0d6aba1223ceba6ee2f816d32f9ec2b8593a667089c1a766139c4bbf5b043", func := "abugida/abugidalaw25.TwolevelObeys", spec := "twolevelObeys", inPlace := ["internal/bytealg.IndexByteString", "internal/bytealg.IndexString", "internal/abi.NoEscape", "internal/bytealg.MakeNoZero"], unfollowed := true, recurses := true, named := ["internal/bytealg.MaxLen", "internal/strconv.uint64pow10", "math/bits.deBruijn32tab", "math/bits.deBruijn64tab"], loops := true, plainKeys := false, apart := false, laid := [("math/bits.deBruijn32tab", laid_math_bits_deBruijn32tab), ("math/bits.deBruijn64tab", laid_math_bits_deBruijn64tab), ("internal/strconv.uint64pow10", laid_internal_strconv_uint64pow10)], narrowed := true }
def TwolevelObeysUptoSaid : Prop := twolevelObeysUptoRow.holds Tryz.pinned (OpenSpec.upto twolevelObeysSpec)

/-- 'abugidalaw25.TwolevelCompiles', WHERE WHAT IT READS IS OF BULK AT MOST 1048576: true; the input reads as it did. -/
def twolevelCompilesUptoRow : OpenClaim := { program := "ytbkmajojolbncaagreatdoor", sum := "71c0d6aba1223ceba6ee2f816d32f9ec2b8593a667089c1a766139c4bbf5b043", func := "abugida/abugidalaw25.TwolevelCompiles", spec := "twolevelCompiles", inPlace := ["internal/bytealg.IndexByteString", "internal/bytealg.IndexString", "internal/abi.NoEscape", "internal/bytealg.MakeNoZero"], unfollowed := true, recurses := true, named := ["internal/bytealg.MaxLen", "internal/strconv.uint64pow10", "math/bits.deBruijn32tab", "math/bits.deBruijn64tab"], loops := true, plainKeys := false, apart := false, laid := [("math/bits.deBruijn32tab", laid_math_bits_deBruijn32tab), ("math/bits.deBruijn64tab", laid_math_bits_deBruijn64tab), ("internal/strconv.uint64pow10", laid_internal_strconv_uint64pow10)], narrowed := true }
def TwolevelCompilesUptoSaid : Prop := twolevelCompilesUptoRow.holds Tryz.pinned (OpenSpec.upto twolevelCompilesSpec)

/-- 'abugidalaw25.TwolevelRelates', WHERE WHAT IT READS IS OF BULK AT MOST 1048576: true; the input reads as it did. -/
def twolevelRelatesUptoRow : OpenClaim := { program := "ytbkmajojolbncaagreatdoor", sum := "71c0d6aba1223ceba6ee2f816d32f9ec2b8593a667089c1a766139c4bbf5b043", func := "abugida/abugidalaw25.TwolevelRelates", spec := "twolevelRelates", inPlace := ["internal/bytealg.IndexByteString", "internal/bytealg.IndexString", "internal/abi.NoEscape", "internal/bytealg.MakeNoZero"], unfollowed := true, recurses := true, named := ["internal/bytealg.MaxLen", "internal/strconv.uint64pow10", "math/bits.deBruijn32tab", "math/bits.deBruijn64tab"], loops := true, plainKeys := false, apart := false, laid := [("math/bits.deBruijn32tab", laid_math_bits_deBruijn32tab), ("math/bits.deBruijn64tab", laid_math_bits_deBruijn64tab), ("internal/strconv.uint64pow10", laid_internal_strconv_uint64pow10)], narrowed := true }
def TwolevelRelatesUptoSaid : Prop := twolevelRelatesUptoRow.holds Tryz.pinned (OpenSpec.upto twolevelRelatesSpec)

/-- 'abugidalaw25.TwolevelPairs', WHERE WHAT IT READS IS OF BULK AT MOST 1048576: true; the input reads as it did. -/
def twolevelPairsUptoRow : OpenClaim := { program := "ytbkmajojolbncaagreatdoor", sum := "71c0d6aba1223ceba6ee2f816d32f9ec2b8593a667089c1a766139c4bbf5b043", func := "abugida/abugidalaw25.TwolevelPairs", spec := "twolevelPairs", inPlace := ["internal/bytealg.IndexByteString", "internal/bytealg.IndexString", "internal/abi.NoEscape", "internal/bytealg.MakeNoZero"], unfollowed := true, recurses := true, named := ["internal/bytealg.MaxLen", "internal/strconv.uint64pow10", "math/bits.deBruijn32tab", "math/bits.deBruijn64tab"], loops := true, plainKeys := false, apart := false, laid := [("math/bits.deBruijn32tab", laid_math_bits_deBruijn32tab), ("math/bits.deBruijn64tab", laid_math_bits_deBruijn64tab), ("internal/strconv.uint64pow10", laid_internal_strconv_uint64pow10)], narrowed := true }
def TwolevelPairsUptoSaid : Prop := twolevelPairsUptoRow.holds Tryz.pinned (OpenSpec.upto twolevelPairsSpec)

/-- 'abugidalaw25.TwolevelBoth', WHERE WHAT IT READS IS OF BULK AT MOST 1048576: true; the input reads as it did. -/
def twolevelBothUptoRow : OpenClaim := { program := "ytbkmajojolbncaagreatdoor", sum := "71c0d6aba1223ceba6ee2f816d32f9ec2b8593a667089c1a766139c4bbf5b043", func := "abugida/abugidalaw25.TwolevelBoth", spec := "twolevelBoth", inPlace := ["internal/bytealg.IndexByteString", "internal/bytealg.IndexString", "internal/abi.NoEscape", "internal/bytealg.MakeNoZero"], unfollowed := true, recurses := true, named := ["internal/bytealg.MaxLen", "internal/strconv.uint64pow10", "math/bits.deBruijn32tab", "math/bits.deBruijn64tab"], loops := true, plainKeys := false, apart := false, laid := [("math/bits.deBruijn32tab", laid_math_bits_deBruijn32tab), ("math/bits.deBruijn64tab", laid_math_bits_deBruijn64tab), ("internal/strconv.uint64pow10", laid_internal_strconv_uint64pow10)], narrowed := true }
def TwolevelBothUptoSaid : Prop := twolevelBothUptoRow.holds Tryz.pinned (OpenSpec.upto twolevelBothSpec)

/-- 'abugidalaw25.TwolevelMore', WHERE WHAT IT READS IS OF BULK AT MOST 1048576: true; the input reads as it did. -/
def twolevelMoreUptoRow : OpenClaim := { program := "ytbkmajojolbncaagreatdoor", sum := "71c0d6aba1223ceba6ee2f816d32f9ec2b8593a667089c1a766139c4bbf5b043", func := "abugida/abugidalaw25.TwolevelMore", spec := "twolevelMore", inPlace := ["internal/bytealg.IndexByteString", "internal/bytealg.IndexString", "internal/abi.NoEscape", "internal/bytealg.MakeNoZero"], unfollowed := true, recurses := true, named := ["internal/bytealg.MaxLen", "internal/strconv.uint64pow10", "math/bits.deBruijn32tab", "math/bits.deBruijn64tab"], loops := true, plainKeys := false, apart := false, laid := [("math/bits.deBruijn32tab", laid_math_bits_deBruijn32tab), ("math/bits.deBruijn64tab", laid_math_bits_deBruijn64tab), ("internal/strconv.uint64pow10", laid_internal_strconv_uint64pow10)], narrowed := true }
def TwolevelMoreUptoSaid : Prop := twolevelMoreUptoRow.holds Tryz.pinned (OpenSpec.upto twolevelMoreSpec)

end Rows
end Go.Proofs.YtbkmajojolbncaaGreatDoor
