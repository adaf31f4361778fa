/- Closed facts of the row of TwolevelExamples, by the kernel. No condition. By an AI agent. -/
import Derived.Test.YtbkmajojolbncaaGreatDoorRows
import Derived.JoinedCond
import GoSem.ClaimSeven
import Derived.Deep.DeepHandedRow
namespace Go.Proofs.YtbkmajojolbncaaGreatDoor
set_option maxRecDepth 100000
theorem facts : joinedFacts Tryz.pinned.checked.prog 3 Tryz.f3 (OpenSpec.ofChange Rows.twolevelExamplesSpec).bare Rows.twolevelExamplesRow = true := by kernel_rfl
theorem looks : Tryz.pinned.checked.prog.looks [] = true := by kernel_rfl
end Go.Proofs.YtbkmajojolbncaaGreatDoor
