/- Calls of the closed run of TranslitKnown, by the kernel. No condition. By an AI agent. -/
import Derived.Test.YtmplkbipoacmmaaGreatDoorKnD2
namespace Go.Proofs.YtmplkbipoacmmaaGreatDoor.translitKnown
open Go.Ev Go.RowKit
set_option maxRecDepth 100000
theorem t0_1 : callsB (pc []) 1500 i0_1 = true := by kernel_rfl
end Go.Proofs.YtmplkbipoacmmaaGreatDoor.translitKnown
