/- Calls of the closed run of CascadeKnown, by the kernel. No condition. By an AI agent. -/
import Derived.Test.YtgcjgfdaophogaaGreatDoorExH
namespace Go.Proofs.YtgcjgfdaophogaaGreatDoor.cascadeKnown
open Go.Ev Go.RowKit
set_option maxRecDepth 100000
theorem hook0 : HookOk Tryz.prog hk0 := hook_of_test (hs := []) (fun _ h => by cases h) (by kernel_rfl)
theorem hook1 : HookOk Tryz.prog hk1 := hook_of_test (hs := []) (fun _ h => by cases h) (by kernel_rfl)
end Go.Proofs.YtgcjgfdaophogaaGreatDoor.cascadeKnown
