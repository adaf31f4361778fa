/- Closed facts of the card of ReplaceExamples, by the kernel. No condition. By an AI agent. -/
import Derived.Test.YtblpelldffaodaaGreatDoorCards
import GoSem.ClaimSeven
import Derived.KernelRfl
namespace Go.Proofs.YtblpelldffaodaaGreatDoor.replaceExamples
open Go
set_option maxRecDepth 100000
theorem wfT : Rows.replaceExamplesRow.wfByText (OpenSpec.ofChange Rows.replaceExamplesSpec) = true := by kernel_rfl
theorem mainT : Tryz.pinned.checked.prog.mainIs = some (Rows.replaceExamplesCard.stood.harness.1, Rows.replaceExamplesCard.stood.harness.2.toList) := by kernel_rfl
theorem goesT : false = Rows.replaceExamplesRow.goesBy Tryz.pinned.checked.prog := by kernel_rfl
end Go.Proofs.YtblpelldffaodaaGreatDoor.replaceExamples
