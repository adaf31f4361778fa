/- Closed facts of the card of TranslitCopies, by the kernel. No condition. By an AI agent. -/
import Derived.Test.YtmplkbipoacmmaaGreatDoorCards
import GoSem.ClaimSeven
import Derived.KernelRfl
namespace Go.Proofs.YtmplkbipoacmmaaGreatDoor.translitCopies
open Go
set_option maxRecDepth 100000
theorem wfT : Rows.translitCopiesRow.wfByText (OpenSpec.ofChange Rows.translitCopiesSpec) = true := by kernel_rfl
theorem mainT : Tryz.pinned.checked.prog.mainIs = some (Rows.translitCopiesCard.stood.harness.1, Rows.translitCopiesCard.stood.harness.2.toList) := by kernel_rfl
theorem goesT : false = Rows.translitCopiesRow.goesBy Tryz.pinned.checked.prog := by kernel_rfl
end Go.Proofs.YtmplkbipoacmmaaGreatDoor.translitCopies
