/-
  NARROWER THAN 'FOR EVERY INPUT', by the rows' own cells (each row's printed sentence says how): RewriteExamples: laid · RewriteSpans: loops, laid · RewriteApplies: loops, laid · RewriteYields: loops, laid · RewriteKinds: loops, laid · RewriteIdle: loops, laid · RewriteBackwards: loops, laid.
  DERIVED. THE GIVEN ROWS OF THIS SEAT. 7 by the template 'for every input the law returns true; each argument reads behind the call as it read before'; 0 by the template 'total and deterministic' (their statements: YtomjpelinabmgaaGreatDoorTotals.lean).
  GIVEN WITH THE SEED: the statements are not yours to turn. If you find one false, say at which input.
  Laid BY PROGRAM, IN A SANDBOX (cutbox-rows.mjs): the forced cells as the released guide's own fill.sh prints them over the translation f2693039c187b4fe… (all of the seat's roots in one cut). By AI agents, Wed Nov 11 2026. No macro, syntax, notation, axiom, sorry.
-/
import Derived.Test.YtomjpelinabmgaaGreatDoorChecked
import GoSem.Claim
import GoSem.ClaimJoined
import GoSem.ClaimMapViews
import Derived.JoinedTies
import Derived.KernelRfl
namespace Go.Proofs.YtomjpelinabmgaaGreatDoor
/- THE CELL 'sum', in the pinned program and in every row, IS THE sha256 OF THE DUMP (.gsa) THAT YtomjpelinabmgaaGreatDoorProg.lean LOADS. Nothing in Lean hashes anything: it is a label: what it is worth is what the hold of that sum in a sandbox is worth. -/
noncomputable def Tryz.pinned : Pinned := { name := "ytomjpelinabmgaagreatdoor", sum := "f2693039c187b4fe79c70b46552b7d285edcd617087c087679ab43379a97f90a", checked := Tryz.checked }
namespace Rows
def none {H : Type} : Left H := { results := [], args := [] }

/- WHAT THE LISTED PACKAGE-LEVEL VARIABLES READ AS WHEN THE CALL BEGINS. Each datum BY PROGRAM (the guide's laid-datum.mjs) off the statement by which the dump's own 'gosem.cut.vars' lays the variable. In a bare row this is a premise. The card (YtomjpelinabmgaaGreatDoorCards.lean) ties it to the program's text. -/
def laid_math_bits_deBruijn32tab {H : Type} : DataW H := .agg [.lit (.int .u8 0), .lit (.int .u8 1), .lit (.int .u8 28), .lit (.int .u8 2), .lit (.int .u8 29), .lit (.int .u8 14), .lit (.int .u8 24), .lit (.int .u8 3), .lit (.int .u8 30), .lit (.int .u8 22), .lit (.int .u8 20), .lit (.int .u8 15), .lit (.int .u8 25), .lit (.int .u8 17), .lit (.int .u8 4), .lit (.int .u8 8), .lit (.int .u8 31), .lit (.int .u8 27), .lit (.int .u8 13), .lit (.int .u8 23), .lit (.int .u8 21), .lit (.int .u8 19), .lit (.int .u8 16), .lit (.int .u8 7), .lit (.int .u8 26), .lit (.int .u8 12), .lit (.int .u8 18), .lit (.int .u8 6), .lit (.int .u8 11), .lit (.int .u8 5), .lit (.int .u8 10), .lit (.int .u8 9)]
def laid_math_bits_deBruijn64tab {H : Type} : DataW H := .agg [.lit (.int .u8 0), .lit (.int .u8 1), .lit (.int .u8 56), .lit (.int .u8 2), .lit (.int .u8 57), .lit (.int .u8 49), .lit (.int .u8 28), .lit (.int .u8 3), .lit (.int .u8 61), .lit (.int .u8 58), .lit (.int .u8 42), .lit (.int .u8 50), .lit (.int .u8 38), .lit (.int .u8 29), .lit (.int .u8 17), .lit (.int .u8 4), .lit (.int .u8 62), .lit (.int .u8 47), .lit (.int .u8 59), .lit (.int .u8 36), .lit (.int .u8 45), .lit (.int .u8 43), .lit (.int .u8 51), .lit (.int .u8 22), .lit (.int .u8 53), .lit (.int .u8 39), .lit (.int .u8 33), .lit (.int .u8 30), .lit (.int .u8 24), .lit (.int .u8 18), .lit (.int .u8 12), .lit (.int .u8 5), .lit (.int .u8 63), .lit (.int .u8 55), .lit (.int .u8 48), .lit (.int .u8 27), .lit (.int .u8 60), .lit (.int .u8 41), .lit (.int .u8 37), .lit (.int .u8 16), .lit (.int .u8 46), .lit (.int .u8 35), .lit (.int .u8 44), .lit (.int .u8 21), .lit (.int .u8 52), .lit (.int .u8 32), .lit (.int .u8 23), .lit (.int .u8 11), .lit (.int .u8 54), .lit (.int .u8 26), .lit (.int .u8 40), .lit (.int .u8 15), .lit (.int .u8 34), .lit (.int .u8 20), .lit (.int .u8 31), .lit (.int .u8 10), .lit (.int .u8 25), .lit (.int .u8 14), .lit (.int .u8 19), .lit (.int .u8 9), .lit (.int .u8 13), .lit (.int .u8 8), .lit (.int .u8 7), .lit (.int .u8 6)]
def laid_internal_strconv_uint64pow10 {H : Type} : DataW H := .agg [.lit (.int .u64 1), .lit (.int .u64 10), .lit (.int .u64 100), .lit (.int .u64 1000), .lit (.int .u64 10000), .lit (.int .u64 100000), .lit (.int .u64 1000000), .lit (.int .u64 10000000), .lit (.int .u64 100000000), .lit (.int .u64 1000000000), .lit (.int .u64 10000000000), .lit (.int .u64 100000000000), .lit (.int .u64 1000000000000), .lit (.int .u64 10000000000000), .lit (.int .u64 100000000000000), .lit (.int .u64 1000000000000000), .lit (.int .u64 10000000000000000), .lit (.int .u64 100000000000000000), .lit (.int .u64 1000000000000000000), .lit (.int .u64 10000000000000000000)]

/-- 'abugidalaw28.RewriteExamples': WHATEVER THE INPUT: true; the input reads as it did. -/
def rewriteExamplesSpec : ChangeSpec := { name := "rewriteExamples", fn := fun _ => fun
  | [] => { results := [.lit (.bool true)], args := [] }
  | _ => none }
def rewriteExamplesRow : OpenClaim := { program := "ytomjpelinabmgaagreatdoor", sum := "f2693039c187b4fe79c70b46552b7d285edcd617087c087679ab43379a97f90a", func := "abugida/abugidalaw28.RewriteExamples", spec := "rewriteExamples", inPlace := ["internal/bytealg.IndexByteString", "internal/bytealg.IndexString", "internal/abi.NoEscape", "internal/bytealg.MakeNoZero"], unfollowed := true, recurses := true, named := ["internal/bytealg.MaxLen", "internal/strconv.uint64pow10", "math/bits.deBruijn32tab", "math/bits.deBruijn64tab"], plainKeys := false, apart := false, laid := [("math/bits.deBruijn32tab", laid_math_bits_deBruijn32tab), ("math/bits.deBruijn64tab", laid_math_bits_deBruijn64tab), ("internal/strconv.uint64pow10", laid_internal_strconv_uint64pow10)] }
def RewriteExamplesSaid : Prop := rewriteExamplesRow.holds Tryz.pinned (OpenSpec.ofChange rewriteExamplesSpec)

/-- ITS FALSE NEIGHBOUR: 'it returns false'. Refute it at one input. -/
def rewriteExamplesWrong : ChangeSpec := { name := "rewriteExamples", fn := fun _ => fun
  | [] => { results := [.lit (.bool false)], args := [] }
  | _ => none }
def RewriteExamplesWrongFalsely : Prop := rewriteExamplesRow.holds Tryz.pinned (OpenSpec.ofChange rewriteExamplesWrong)

/-- 'abugidalaw28.RewriteSpans': WHATEVER THE INPUT: true; the input reads as it did. -/
def rewriteSpansSpec : ChangeSpec := { name := "rewriteSpans", fn := fun _ => fun
  | [d1, d2] => { results := [.lit (.bool true)], args := [d1, d2] }
  | _ => none }
def rewriteSpansRow : OpenClaim := { program := "ytomjpelinabmgaagreatdoor", sum := "f2693039c187b4fe79c70b46552b7d285edcd617087c087679ab43379a97f90a", func := "abugida/abugidalaw28.RewriteSpans", spec := "rewriteSpans", inPlace := ["internal/bytealg.IndexByteString", "internal/bytealg.IndexString", "internal/abi.NoEscape", "internal/bytealg.MakeNoZero"], unfollowed := true, recurses := true, named := ["internal/bytealg.MaxLen", "internal/strconv.uint64pow10", "math/bits.deBruijn32tab", "math/bits.deBruijn64tab"], loops := true, plainKeys := false, apart := false, laid := [("math/bits.deBruijn32tab", laid_math_bits_deBruijn32tab), ("math/bits.deBruijn64tab", laid_math_bits_deBruijn64tab), ("internal/strconv.uint64pow10", laid_internal_strconv_uint64pow10)] }
def RewriteSpansSaid : Prop := rewriteSpansRow.holds Tryz.pinned (OpenSpec.ofChange rewriteSpansSpec)

/-- ITS FALSE NEIGHBOUR: 'it returns false'. Refute it at one input. -/
def rewriteSpansWrong : ChangeSpec := { name := "rewriteSpans", fn := fun _ => fun
  | [d1, d2] => { results := [.lit (.bool false)], args := [d1, d2] }
  | _ => none }
def RewriteSpansWrongFalsely : Prop := rewriteSpansRow.holds Tryz.pinned (OpenSpec.ofChange rewriteSpansWrong)

/-- 'abugidalaw28.RewriteApplies': WHATEVER THE INPUT: true; the input reads as it did. -/
def rewriteAppliesSpec : ChangeSpec := { name := "rewriteApplies", fn := fun _ => fun
  | [d1, d2] => { results := [.lit (.bool true)], args := [d1, d2] }
  | _ => none }
def rewriteAppliesRow : OpenClaim := { program := "ytomjpelinabmgaagreatdoor", sum := "f2693039c187b4fe79c70b46552b7d285edcd617087c087679ab43379a97f90a", func := "abugida/abugidalaw28.RewriteApplies", spec := "rewriteApplies", inPlace := ["internal/bytealg.IndexByteString", "internal/bytealg.IndexString", "internal/abi.NoEscape", "internal/bytealg.MakeNoZero"], unfollowed := true, recurses := true, named := ["internal/bytealg.MaxLen", "internal/strconv.uint64pow10", "math/bits.deBruijn32tab", "math/bits.deBruijn64tab"], loops := true, plainKeys := false, apart := false, laid := [("math/bits.deBruijn32tab", laid_math_bits_deBruijn32tab), ("math/bits.deBruijn64tab", laid_math_bits_deBruijn64tab), ("internal/strconv.uint64pow10", laid_internal_strconv_uint64pow10)] }
def RewriteAppliesSaid : Prop := rewriteAppliesRow.holds Tryz.pinned (OpenSpec.ofChange rewriteAppliesSpec)

/-- ITS FALSE NEIGHBOUR: 'it returns false'. Refute it at one input. -/
def rewriteAppliesWrong : ChangeSpec := { name := "rewriteApplies", fn := fun _ => fun
  | [d1, d2] => { results := [.lit (.bool false)], args := [d1, d2] }
  | _ => none }
def RewriteAppliesWrongFalsely : Prop := rewriteAppliesRow.holds Tryz.pinned (OpenSpec.ofChange rewriteAppliesWrong)

/-- 'abugidalaw28.RewriteYields': WHATEVER THE INPUT: true; the input reads as it did. -/
def rewriteYieldsSpec : ChangeSpec := { name := "rewriteYields", fn := fun _ => fun
  | [d1, d2, d3] => { results := [.lit (.bool true)], args := [d1, d2, d3] }
  | _ => none }
def rewriteYieldsRow : OpenClaim := { program := "ytomjpelinabmgaagreatdoor", sum := "f2693039c187b4fe79c70b46552b7d285edcd617087c087679ab43379a97f90a", func := "abugida/abugidalaw28.RewriteYields", spec := "rewriteYields", inPlace := ["internal/bytealg.IndexByteString", "internal/bytealg.IndexString", "internal/abi.NoEscape", "internal/bytealg.MakeNoZero"], unfollowed := true, recurses := true, named := ["internal/bytealg.MaxLen", "internal/strconv.uint64pow10", "math/bits.deBruijn32tab", "math/bits.deBruijn64tab"], loops := true, plainKeys := false, apart := false, laid := [("math/bits.deBruijn32tab", laid_math_bits_deBruijn32tab), ("math/bits.deBruijn64tab", laid_math_bits_deBruijn64tab), ("internal/strconv.uint64pow10", laid_internal_strconv_uint64pow10)] }
def RewriteYieldsSaid : Prop := rewriteYieldsRow.holds Tryz.pinned (OpenSpec.ofChange rewriteYieldsSpec)

/-- ITS FALSE NEIGHBOUR: 'it returns false'. Refute it at one input. -/
def rewriteYieldsWrong : ChangeSpec := { name := "rewriteYields", fn := fun _ => fun
  | [d1, d2, d3] => { results := [.lit (.bool false)], args := [d1, d2, d3] }
  | _ => none }
def RewriteYieldsWrongFalsely : Prop := rewriteYieldsRow.holds Tryz.pinned (OpenSpec.ofChange rewriteYieldsWrong)

/-- 'abugidalaw28.RewriteKinds': WHATEVER THE INPUT: true; the input reads as it did. -/
def rewriteKindsSpec : ChangeSpec := { name := "rewriteKinds", fn := fun _ => fun
  | [d1, d2] => { results := [.lit (.bool true)], args := [d1, d2] }
  | _ => none }
def rewriteKindsRow : OpenClaim := { program := "ytomjpelinabmgaagreatdoor", sum := "f2693039c187b4fe79c70b46552b7d285edcd617087c087679ab43379a97f90a", func := "abugida/abugidalaw28.RewriteKinds", spec := "rewriteKinds", inPlace := ["internal/bytealg.IndexByteString", "internal/bytealg.IndexString", "internal/abi.NoEscape", "internal/bytealg.MakeNoZero"], unfollowed := true, recurses := true, named := ["internal/bytealg.MaxLen", "internal/strconv.uint64pow10", "math/bits.deBruijn32tab", "math/bits.deBruijn64tab"], loops := true, plainKeys := false, apart := false, laid := [("math/bits.deBruijn32tab", laid_math_bits_deBruijn32tab), ("math/bits.deBruijn64tab", laid_math_bits_deBruijn64tab), ("internal/strconv.uint64pow10", laid_internal_strconv_uint64pow10)] }
def RewriteKindsSaid : Prop := rewriteKindsRow.holds Tryz.pinned (OpenSpec.ofChange rewriteKindsSpec)

/-- ITS FALSE NEIGHBOUR: 'it returns false'. Refute it at one input. -/
def rewriteKindsWrong : ChangeSpec := { name := "rewriteKinds", fn := fun _ => fun
  | [d1, d2] => { results := [.lit (.bool false)], args := [d1, d2] }
  | _ => none }
def RewriteKindsWrongFalsely : Prop := rewriteKindsRow.holds Tryz.pinned (OpenSpec.ofChange rewriteKindsWrong)

/-- 'abugidalaw28.RewriteIdle': WHATEVER THE INPUT: true; the input reads as it did. -/
def rewriteIdleSpec : ChangeSpec := { name := "rewriteIdle", fn := fun _ => fun
  | [d1, d2] => { results := [.lit (.bool true)], args := [d1, d2] }
  | _ => none }
def rewriteIdleRow : OpenClaim := { program := "ytomjpelinabmgaagreatdoor", sum := "f2693039c187b4fe79c70b46552b7d285edcd617087c087679ab43379a97f90a", func := "abugida/abugidalaw28.RewriteIdle", spec := "rewriteIdle", inPlace := ["internal/bytealg.IndexByteString", "internal/bytealg.IndexString", "internal/abi.NoEscape", "internal/bytealg.MakeNoZero"], unfollowed := true, recurses := true, named := ["internal/bytealg.MaxLen", "internal/strconv.uint64pow10", "math/bits.deBruijn32tab", "math/bits.deBruijn64tab"], loops := true, plainKeys := false, apart := false, laid := [("math/bits.deBruijn32tab", laid_math_bits_deBruijn32tab), ("math/bits.deBruijn64tab", laid_math_bits_deBruijn64tab), ("internal/strconv.uint64pow10", laid_internal_strconv_uint64pow10)] }
def RewriteIdleSaid : Prop := rewriteIdleRow.holds Tryz.pinned (OpenSpec.ofChange rewriteIdleSpec)

/-- ITS FALSE NEIGHBOUR: 'it returns false'. Refute it at one input. -/
def rewriteIdleWrong : ChangeSpec := { name := "rewriteIdle", fn := fun _ => fun
  | [d1, d2] => { results := [.lit (.bool false)], args := [d1, d2] }
  | _ => none }
def RewriteIdleWrongFalsely : Prop := rewriteIdleRow.holds Tryz.pinned (OpenSpec.ofChange rewriteIdleWrong)

/-- 'abugidalaw28.RewriteBackwards': WHATEVER THE INPUT: true; the input reads as it did. -/
def rewriteBackwardsSpec : ChangeSpec := { name := "rewriteBackwards", fn := fun _ => fun
  | [d1, d2] => { results := [.lit (.bool true)], args := [d1, d2] }
  | _ => none }
def rewriteBackwardsRow : OpenClaim := { program := "ytomjpelinabmgaagreatdoor", sum := "f2693039c187b4fe79c70b46552b7d285edcd617087c087679ab43379a97f90a", func := "abugida/abugidalaw28.RewriteBackwards", spec := "rewriteBackwards", inPlace := ["internal/bytealg.IndexByteString", "internal/bytealg.IndexString", "internal/abi.NoEscape", "internal/bytealg.MakeNoZero"], unfollowed := true, recurses := true, named := ["internal/bytealg.MaxLen", "internal/strconv.uint64pow10", "math/bits.deBruijn32tab", "math/bits.deBruijn64tab"], loops := true, plainKeys := false, apart := false, laid := [("math/bits.deBruijn32tab", laid_math_bits_deBruijn32tab), ("math/bits.deBruijn64tab", laid_math_bits_deBruijn64tab), ("internal/strconv.uint64pow10", laid_internal_strconv_uint64pow10)] }
def RewriteBackwardsSaid : Prop := rewriteBackwardsRow.holds Tryz.pinned (OpenSpec.ofChange rewriteBackwardsSpec)

/-- ITS FALSE NEIGHBOUR: 'it returns false'. Refute it at one input. -/
def rewriteBackwardsWrong : ChangeSpec := { name := "rewriteBackwards", fn := fun _ => fun
  | [d1, d2] => { results := [.lit (.bool false)], args := [d1, d2] }
  | _ => none }
def RewriteBackwardsWrongFalsely : Prop := rewriteBackwardsRow.holds Tryz.pinned (OpenSpec.ofChange rewriteBackwardsWrong)

/- THE SECOND FORM. 'bulk': how many values and letters a reading holds, each counted each time it is reached (what is shared counts as often as it is met; a slice's spare places count too). A statement '..UptoSaid' is the law's where the arguments, and the package variables that the reading takes, are together of bulk at most 1048576: NARROWER than '..Said'. Prove '..Said' where nothing that the law and all that it calls make is longer than what came in: it says more and counts as full. Else prove '..UptoSaid'. A law counts once. -/
mutual
def uptoBulk {H : Type} : DataW H → Nat
  | .lit (.string bytes) => bytes.length + 1
  | .lit _ => 1
  | .nil => 1
  | .ptr d => uptoBulk d + 1
  | .slice elems spare => uptoBulkAll elems + uptoBulkAll spare + 1
  | .agg parts => uptoBulkAll parts + 1
  | .iface _ d => uptoBulk d + 1
  | .map entries => uptoBulkEntries entries + 1
  | .held _ => 1
def uptoBulkAll {H : Type} : List (DataW H) → Nat
  | [] => 0
  | d :: r => uptoBulk d + uptoBulkAll r
def uptoBulkEntries {H : Type} : List (Lit × DataW H) → Nat
  | [] => 0
  | x :: r => uptoBulkEntry x + uptoBulkEntries r
def uptoBulkEntry {H : Type} : Lit × DataW H → Nat
  | (.string bytes, d) => bytes.length + uptoBulk d + 1
  | (_, d) => uptoBulk d + 1
 end
def uptoSmall : (H : Type) → List (DataW H) → Bool := fun _ ds => decide (uptoBulkAll ds ≤ 1048576)
def OpenSpec.upto (s : _root_.Go.ChangeSpec) : _root_.Go.OpenSpec := { _root_.Go.OpenSpec.ofChange s with cond := some uptoSmall }

/-- 'abugidalaw28.RewriteExamples', WHERE WHAT IT READS IS OF BULK AT MOST 1048576: true; the input reads as it did. -/
def rewriteExamplesUptoRow : OpenClaim := { program := "ytomjpelinabmgaagreatdoor", sum := "f2693039c187b4fe79c70b46552b7d285edcd617087c087679ab43379a97f90a", func := "abugida/abugidalaw28.RewriteExamples", spec := "rewriteExamples", inPlace := ["internal/bytealg.IndexByteString", "internal/bytealg.IndexString", "internal/abi.NoEscape", "internal/bytealg.MakeNoZero"], unfollowed := true, recurses := true, named := ["internal/bytealg.MaxLen", "internal/strconv.uint64pow10", "math/bits.deBruijn32tab", "math/bits.deBruijn64tab"], plainKeys := false, apart := false, laid := [("math/bits.deBruijn32tab", laid_math_bits_deBruijn32tab), ("math/bits.deBruijn64tab", laid_math_bits_deBruijn64tab), ("internal/strconv.uint64pow10", laid_internal_strconv_uint64pow10)], narrowed := true }
def RewriteExamplesUptoSaid : Prop := rewriteExamplesUptoRow.holds Tryz.pinned (OpenSpec.upto rewriteExamplesSpec)

/-- 'abugidalaw28.RewriteSpans', WHERE WHAT IT READS IS OF BULK AT MOST 1048576: true; the input reads as it did. -/
def rewriteSpansUptoRow : OpenClaim := { program := "ytomjpelinabmgaagreatdoor", sum := "f2693039c187b4fe79c70b46552b7d285edcd617087c087679ab43379a97f90a", func := "abugida/abugidalaw28.RewriteSpans", spec := "rewriteSpans", inPlace := ["internal/bytealg.IndexByteString", "internal/bytealg.IndexString", "internal/abi.NoEscape", "internal/bytealg.MakeNoZero"], unfollowed := true, recurses := true, named := ["internal/bytealg.MaxLen", "internal/strconv.uint64pow10", "math/bits.deBruijn32tab", "math/bits.deBruijn64tab"], loops := true, plainKeys := false, apart := false, laid := [("math/bits.deBruijn32tab", laid_math_bits_deBruijn32tab), ("math/bits.deBruijn64tab", laid_math_bits_deBruijn64tab), ("internal/strconv.uint64pow10", laid_internal_strconv_uint64pow10)], narrowed := true }
def RewriteSpansUptoSaid : Prop := rewriteSpansUptoRow.holds Tryz.pinned (OpenSpec.upto rewriteSpansSpec)

/-- 'abugidalaw28.RewriteApplies', WHERE WHAT IT READS IS OF BULK AT MOST 1048576: true; the input reads as it did. -/
def rewriteAppliesUptoRow : OpenClaim := { program := "ytomjpelinabmgaagreatdoor", sum := "f2693039c187b4fe79c70b46552b7d285edcd617087c087679ab43379a97f90a", func := "abugida/abugidalaw28.RewriteApplies", spec := "rewriteApplies", inPlace := ["internal/bytealg.IndexByteString", "internal/bytealg.IndexString", "internal/abi.NoEscape", "internal/bytealg.MakeNoZero"], unfollowed := true, recurses := true, named := ["internal/bytealg.MaxLen", "internal/strconv.uint64pow10", "math/bits.deBruijn32tab", "math/bits.deBruijn64tab"], loops := true, plainKeys := false, apart := false, laid := [("math/bits.deBruijn32tab", laid_math_bits_deBruijn32tab), ("math/bits.deBruijn64tab", laid_math_bits_deBruijn64tab), ("internal/strconv.uint64pow10", laid_internal_strconv_uint64pow10)], narrowed := true }
def RewriteAppliesUptoSaid : Prop := rewriteAppliesUptoRow.holds Tryz.pinned (OpenSpec.upto rewriteAppliesSpec)

/-- 'abugidalaw28.RewriteYields', WHERE WHAT IT READS IS OF BULK AT MOST 1048576: true; the input reads as it did. -/
def rewriteYieldsUptoRow : OpenClaim := { program := "ytomjpelinabmgaagreatdoor", sum := "f2693039c187b4fe79c70b46552b7d285edcd617087c087679ab43379a97f90a", func := "abugida/abugidalaw28.RewriteYields", spec := "rewriteYields", inPlace := ["internal/bytealg.IndexByteString", "internal/bytealg.IndexString", "internal/abi.NoEscape", "internal/bytealg.MakeNoZero"], unfollowed := true, recurses := true, named := ["internal/bytealg.MaxLen", "internal/strconv.uint64pow10", "math/bits.deBruijn32tab", "math/bits.deBruijn64tab"], loops := true, plainKeys := false, apart := false, laid := [("math/bits.deBruijn32tab", laid_math_bits_deBruijn32tab), ("math/bits.deBruijn64tab", laid_math_bits_deBruijn64tab), ("internal/strconv.uint64pow10", laid_internal_strconv_uint64pow10)], narrowed := true }
def RewriteYieldsUptoSaid : Prop := rewriteYieldsUptoRow.holds Tryz.pinned (OpenSpec.upto rewriteYieldsSpec)

/-- 'abugidalaw28.RewriteKinds', WHERE WHAT IT READS IS OF BULK AT MOST 1048576: true; the input reads as it did. -/
def rewriteKindsUptoRow : OpenClaim := { program := "ytomjpelinabmgaagreatdoor", sum := "f2693039c187b4fe79c70b46552b7d285edcd617087c087679ab43379a97f90a", func := "abugida/abugidalaw28.RewriteKinds", spec := "rewriteKinds", inPlace := ["internal/bytealg.IndexByteString", "internal/bytealg.IndexString", "internal/abi.NoEscape", "internal/bytealg.MakeNoZero"], unfollowed := true, recurses := true, named := ["internal/bytealg.MaxLen", "internal/strconv.uint64pow10", "math/bits.deBruijn32tab", "math/bits.deBruijn64tab"], loops := true, plainKeys := false, apart := false, laid := [("math/bits.deBruijn32tab", laid_math_bits_deBruijn32tab), ("math/bits.deBruijn64tab", laid_math_bits_deBruijn64tab), ("internal/strconv.uint64pow10", laid_internal_strconv_uint64pow10)], narrowed := true }
def RewriteKindsUptoSaid : Prop := rewriteKindsUptoRow.holds Tryz.pinned (OpenSpec.upto rewriteKindsSpec)

/-- 'abugidalaw28.RewriteIdle', WHERE WHAT IT READS IS OF BULK AT MOST 1048576: true; the input reads as it did. -/
def rewriteIdleUptoRow : OpenClaim := { program := "ytomjpelinabmgaagreatdoor", sum := "f2693039c187b4fe79c70b46552b7d285edcd617087c087679ab43379a97f90a", func := "abugida/abugidalaw28.RewriteIdle", spec := "rewriteIdle", inPlace := ["internal/bytealg.IndexByteString", "internal/bytealg.IndexString", "internal/abi.NoEscape", "internal/bytealg.MakeNoZero"], unfollowed := true, recurses := true, named := ["internal/bytealg.MaxLen", "internal/strconv.uint64pow10", "math/bits.deBruijn32tab", "math/bits.deBruijn64tab"], loops := true, plainKeys := false, apart := false, laid := [("math/bits.deBruijn32tab", laid_math_bits_deBruijn32tab), ("math/bits.deBruijn64tab", laid_math_bits_deBruijn64tab), ("internal/strconv.uint64pow10", laid_internal_strconv_uint64pow10)], narrowed := true }
def RewriteIdleUptoSaid : Prop := rewriteIdleUptoRow.holds Tryz.pinned (OpenSpec.upto rewriteIdleSpec)

/-- 'abugidalaw28.RewriteBackwards', WHERE WHAT IT READS IS OF BULK AT MOST 1048576: true; the input reads as it did. -/
def rewriteBackwardsUptoRow : OpenClaim := { program := "ytomjpelinabmgaagreatdoor", sum := "f2693039c187b4fe79c70b46552b7d285edcd617087c087679ab43379a97f90a", func := "abugida/abugidalaw28.RewriteBackwards", spec := "rewriteBackwards", inPlace := ["internal/bytealg.IndexByteString", "internal/bytealg.IndexString", "internal/abi.NoEscape", "internal/bytealg.MakeNoZero"], unfollowed := true, recurses := true, named := ["internal/bytealg.MaxLen", "internal/strconv.uint64pow10", "math/bits.deBruijn32tab", "math/bits.deBruijn64tab"], loops := true, plainKeys := false, apart := false, laid := [("math/bits.deBruijn32tab", laid_math_bits_deBruijn32tab), ("math/bits.deBruijn64tab", laid_math_bits_deBruijn64tab), ("internal/strconv.uint64pow10", laid_internal_strconv_uint64pow10)], narrowed := true }
def RewriteBackwardsUptoSaid : Prop := rewriteBackwardsUptoRow.holds Tryz.pinned (OpenSpec.upto rewriteBackwardsSpec)

end Rows
end Go.Proofs.YtomjpelinabmgaaGreatDoor
