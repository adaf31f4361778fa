/- Calls of the closed run of ReplaceExamples, by the kernel. No condition. By an AI agent. -/
import Derived.Test.YtblpelldffaodaaGreatDoorExH
namespace Go.Proofs.YtblpelldffaodaaGreatDoor.replaceExamples
open Go.Ev Go.RowKit
set_option maxRecDepth 100000
theorem hook14 : HookOk Tryz.prog hk14 := hook_of_test (hs := []) (fun _ h => by cases h) (by kernel_rfl)
theorem hook15 : HookOk Tryz.prog hk15 := hook_of_test (hs := []) (fun _ h => by cases h) (by kernel_rfl)
theorem hook16 : HookOk Tryz.prog hk16 := hook_of_test (hs := []) (fun _ h => by cases h) (by kernel_rfl)
end Go.Proofs.YtblpelldffaodaaGreatDoor.replaceExamples
