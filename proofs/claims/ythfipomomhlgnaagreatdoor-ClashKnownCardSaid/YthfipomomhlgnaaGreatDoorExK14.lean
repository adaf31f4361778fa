/- Calls of the closed run of ClashKnown, by the kernel. No condition. By an AI agent. -/
import Derived.Test.YthfipomomhlgnaaGreatDoorExH
namespace Go.Proofs.YthfipomomhlgnaaGreatDoor.clashKnown
open Go.Ev Go.RowKit
set_option maxRecDepth 100000
theorem hook14 : HookOk Tryz.prog hk14 := hook_of_test (hs := []) (fun _ h => by cases h) (by kernel_rfl)
end Go.Proofs.YthfipomomhlgnaaGreatDoor.clashKnown
