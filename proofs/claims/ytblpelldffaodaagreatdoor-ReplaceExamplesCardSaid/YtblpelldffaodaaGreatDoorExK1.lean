/- Calls of the closed run of ReplaceExamples, by the kernel. No condition. By an AI agent. -/
import Derived.Test.YtblpelldffaodaaGreatDoorExH
namespace Go.Proofs.YtblpelldffaodaaGreatDoor.replaceExamples
open Go.Ev Go.RowKit
set_option maxRecDepth 100000
theorem hook3 : HookOk Tryz.prog hk3 := hook_of_test (hs := []) (fun _ h => by cases h) (by kernel_rfl)
theorem hook4 : HookOk Tryz.prog hk4 := hook_of_test (hs := []) (fun _ h => by cases h) (by kernel_rfl)
theorem hook5 : HookOk Tryz.prog hk5 := hook_of_test (hs := []) (fun _ h => by cases h) (by kernel_rfl)
theorem hook6 : HookOk Tryz.prog hk6 := hook_of_test (hs := []) (fun _ h => by cases h) (by kernel_rfl)
end Go.Proofs.YtblpelldffaodaaGreatDoor.replaceExamples
