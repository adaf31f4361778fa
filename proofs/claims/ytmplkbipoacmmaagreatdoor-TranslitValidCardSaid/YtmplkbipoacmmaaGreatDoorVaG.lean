/- Closed facts of the card of TranslitValid, by the kernel. No condition. By an AI agent. -/
import Derived.Test.YtmplkbipoacmmaaGreatDoorCards
import GoSem.ClaimSeven
import Derived.KernelRfl
namespace Go.Proofs.YtmplkbipoacmmaaGreatDoor.translitValid
open Go
set_option maxRecDepth 100000
theorem wfT : Rows.translitValidRow.wfByText (OpenSpec.ofChange Rows.translitValidSpec) = true := by kernel_rfl
theorem mainT : Tryz.pinned.checked.prog.mainIs = some (Rows.translitValidCard.stood.harness.1, Rows.translitValidCard.stood.harness.2.toList) := by kernel_rfl
theorem goesT : false = Rows.translitValidRow.goesBy Tryz.pinned.checked.prog := by kernel_rfl
end Go.Proofs.YtmplkbipoacmmaaGreatDoor.translitValid
