/- Calls of the closed run of ReplaceExamples, by the kernel. No condition. By an AI agent. -/
import Derived.Test.YtblpelldffaodaaGreatDoorExH
namespace Go.Proofs.YtblpelldffaodaaGreatDoor.replaceExamples
open Go.Ev Go.RowKit
set_option maxRecDepth 100000
theorem hook17 : HookOk Tryz.prog hk17 := hook_of_test (hs := []) (fun _ h => by cases h) (by kernel_rfl)
theorem hook18 : HookOk Tryz.prog hk18 := hook_of_test (hs := []) (fun _ h => by cases h) (by kernel_rfl)
theorem hook19 : HookOk Tryz.prog hk19 := hook_of_test (hs := []) (fun _ h => by cases h) (by kernel_rfl)
end Go.Proofs.YtblpelldffaodaaGreatDoor.replaceExamples
