/- Closed facts of the card of TranslitParts, by the kernel. No condition. By an AI agent. -/
import Derived.Test.YtmplkbipoacmmaaGreatDoorCards
import GoSem.ClaimSeven
import Derived.KernelRfl
namespace Go.Proofs.YtmplkbipoacmmaaGreatDoor.translitParts
open Go
set_option maxRecDepth 100000
theorem wfT : Rows.translitPartsRow.wfByText (OpenSpec.ofChange Rows.translitPartsSpec) = true := by kernel_rfl
theorem mainT : Tryz.pinned.checked.prog.mainIs = some (Rows.translitPartsCard.stood.harness.1, Rows.translitPartsCard.stood.harness.2.toList) := by kernel_rfl
theorem goesT : false = Rows.translitPartsRow.goesBy Tryz.pinned.checked.prog := by kernel_rfl
end Go.Proofs.YtmplkbipoacmmaaGreatDoor.translitParts
