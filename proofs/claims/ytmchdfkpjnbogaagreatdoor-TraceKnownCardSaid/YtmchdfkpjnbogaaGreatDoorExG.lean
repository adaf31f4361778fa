/- Closed facts of the card of TraceKnown, by the kernel. No condition. By an AI agent. -/
import Derived.Test.YtmchdfkpjnbogaaGreatDoorCards
import GoSem.ClaimSeven
import Derived.KernelRfl
namespace Go.Proofs.YtmchdfkpjnbogaaGreatDoor.traceKnown
open Go
set_option maxRecDepth 100000
theorem wfT : Rows.traceKnownRow.wfByText (OpenSpec.ofChange Rows.traceKnownSpec) = true := by kernel_rfl
theorem mainT : Tryz.pinned.checked.prog.mainIs = some (Rows.traceKnownCard.stood.harness.1, Rows.traceKnownCard.stood.harness.2.toList) := by kernel_rfl
theorem goesT : false = Rows.traceKnownRow.goesBy Tryz.pinned.checked.prog := by kernel_rfl
end Go.Proofs.YtmchdfkpjnbogaaGreatDoor.traceKnown
