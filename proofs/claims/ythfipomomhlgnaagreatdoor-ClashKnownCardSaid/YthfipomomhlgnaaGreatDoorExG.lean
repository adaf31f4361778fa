/- Closed facts of the card of ClashKnown, by the kernel. No condition. By an AI agent. -/
import Derived.Test.YthfipomomhlgnaaGreatDoorCards
import GoSem.ClaimSeven
import Derived.KernelRfl
namespace Go.Proofs.YthfipomomhlgnaaGreatDoor.clashKnown
open Go
set_option maxRecDepth 100000
theorem wfT : Rows.clashKnownRow.wfByText (OpenSpec.ofChange Rows.clashKnownSpec) = true := by kernel_rfl
theorem mainT : Tryz.pinned.checked.prog.mainIs = some (Rows.clashKnownCard.stood.harness.1, Rows.clashKnownCard.stood.harness.2.toList) := by kernel_rfl
theorem goesT : false = Rows.clashKnownRow.goesBy Tryz.pinned.checked.prog := by kernel_rfl
end Go.Proofs.YthfipomomhlgnaaGreatDoor.clashKnown
