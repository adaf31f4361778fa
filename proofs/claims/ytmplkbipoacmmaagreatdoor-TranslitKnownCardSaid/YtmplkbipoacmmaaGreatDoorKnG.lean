/- Closed facts of the card of TranslitKnown, by the kernel. No condition. By an AI agent. -/
import Derived.Test.YtmplkbipoacmmaaGreatDoorCards
import GoSem.ClaimSeven
import Derived.KernelRfl
namespace Go.Proofs.YtmplkbipoacmmaaGreatDoor.translitKnown
open Go
set_option maxRecDepth 100000
theorem wfT : Rows.translitKnownRow.wfByText (OpenSpec.ofChange Rows.translitKnownSpec) = true := by kernel_rfl
theorem mainT : Tryz.pinned.checked.prog.mainIs = some (Rows.translitKnownCard.stood.harness.1, Rows.translitKnownCard.stood.harness.2.toList) := by kernel_rfl
theorem goesT : false = Rows.translitKnownRow.goesBy Tryz.pinned.checked.prog := by kernel_rfl
end Go.Proofs.YtmplkbipoacmmaaGreatDoor.translitKnown
