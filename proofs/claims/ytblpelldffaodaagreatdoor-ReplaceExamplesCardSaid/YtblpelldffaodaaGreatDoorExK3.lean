/- Calls of the closed run of ReplaceExamples, by the kernel. No condition. By an AI agent. -/
import Derived.Test.YtblpelldffaodaaGreatDoorExH
namespace Go.Proofs.YtblpelldffaodaaGreatDoor.replaceExamples
open Go.Ev Go.RowKit
set_option maxRecDepth 100000
theorem hook10 : HookOk Tryz.prog hk10 := hook_of_test (hs := []) (fun _ h => by cases h) (by kernel_rfl)
theorem hook11 : HookOk Tryz.prog hk11 := hook_of_test (hs := []) (fun _ h => by cases h) (by kernel_rfl)
theorem hook12 : HookOk Tryz.prog hk12 := hook_of_test (hs := []) (fun _ h => by cases h) (by kernel_rfl)
theorem hook13 : HookOk Tryz.prog hk13 := hook_of_test (hs := []) (fun _ h => by cases h) (by kernel_rfl)
end Go.Proofs.YtblpelldffaodaaGreatDoor.replaceExamples
