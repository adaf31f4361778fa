/- Calls of the closed run of RewriteExamples, by the kernel. No condition. By an AI agent. -/
import Derived.Test.YtomjpelinabmgaaGreatDoorExH
namespace Go.Proofs.YtomjpelinabmgaaGreatDoor.rewriteExamples
open Go.Ev Go.RowKit
set_option maxRecDepth 100000
theorem hook5 : HookOk Tryz.prog hk5 := hook_of_test (hs := []) (fun _ h => by cases h) (by kernel_rfl)
theorem hook6 : HookOk Tryz.prog hk6 := hook_of_test (hs := []) (fun _ h => by cases h) (by kernel_rfl)
end Go.Proofs.YtomjpelinabmgaaGreatDoor.rewriteExamples
