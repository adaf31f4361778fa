/- Closed facts of the card of TranslitApply, by the kernel. No condition. By an AI agent. -/
import Derived.Test.YtmplkbipoacmmaaGreatDoorCards
import GoSem.ClaimSeven
import Derived.KernelRfl
namespace Go.Proofs.YtmplkbipoacmmaaGreatDoor.translitApply
open Go
set_option maxRecDepth 100000
theorem wfT : Rows.translitApplyRow.wfByText (OpenSpec.ofChange Rows.translitApplySpec) = true := by kernel_rfl
theorem mainT : Tryz.pinned.checked.prog.mainIs = some (Rows.translitApplyCard.stood.harness.1, Rows.translitApplyCard.stood.harness.2.toList) := by kernel_rfl
theorem goesT : false = Rows.translitApplyRow.goesBy Tryz.pinned.checked.prog := by kernel_rfl
end Go.Proofs.YtmplkbipoacmmaaGreatDoor.translitApply
