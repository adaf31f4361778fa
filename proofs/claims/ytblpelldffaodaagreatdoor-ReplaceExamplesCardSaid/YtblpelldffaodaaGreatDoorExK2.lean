/- Calls of the closed run of ReplaceExamples, by the kernel. No condition. By an AI agent. -/
import Derived.Test.YtblpelldffaodaaGreatDoorExH
namespace Go.Proofs.YtblpelldffaodaaGreatDoor.replaceExamples
open Go.Ev Go.RowKit
set_option maxRecDepth 100000
theorem hook7 : HookOk Tryz.prog hk7 := hook_of_test (hs := []) (fun _ h => by cases h) (by kernel_rfl)
theorem hook8 : HookOk Tryz.prog hk8 := hook_of_test (hs := []) (fun _ h => by cases h) (by kernel_rfl)
theorem hook9 : HookOk Tryz.prog hk9 := hook_of_test (hs := []) (fun _ h => by cases h) (by kernel_rfl)
end Go.Proofs.YtblpelldffaodaaGreatDoor.replaceExamples
