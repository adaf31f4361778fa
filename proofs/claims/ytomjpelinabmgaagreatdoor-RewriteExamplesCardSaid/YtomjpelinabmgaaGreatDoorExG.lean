/- Closed facts of the card of RewriteExamples, by the kernel. No condition. By an AI agent. -/
import Derived.Test.YtomjpelinabmgaaGreatDoorCards
import GoSem.ClaimSeven
import Derived.KernelRfl
namespace Go.Proofs.YtomjpelinabmgaaGreatDoor.rewriteExamples
open Go
set_option maxRecDepth 100000
theorem wfT : Rows.rewriteExamplesRow.wfByText (OpenSpec.ofChange Rows.rewriteExamplesSpec) = true := by kernel_rfl
theorem mainT : Tryz.pinned.checked.prog.mainIs = some (Rows.rewriteExamplesCard.stood.harness.1, Rows.rewriteExamplesCard.stood.harness.2.toList) := by kernel_rfl
theorem goesT : false = Rows.rewriteExamplesRow.goesBy Tryz.pinned.checked.prog := by kernel_rfl
end Go.Proofs.YtomjpelinabmgaaGreatDoor.rewriteExamples
