/- Calls of the closed run of TranslitKnown, by the kernel. No condition. By an AI agent. -/
import Derived.Test.YtmplkbipoacmmaaGreatDoorKnD2
namespace Go.Proofs.YtmplkbipoacmmaaGreatDoor.translitKnown
open Go.Ev Go.RowKit
set_option maxRecDepth 100000
theorem t0_7 : callsB (pc []) 1500 i0_7 = true := by kernel_rfl
end Go.Proofs.YtmplkbipoacmmaaGreatDoor.translitKnown
