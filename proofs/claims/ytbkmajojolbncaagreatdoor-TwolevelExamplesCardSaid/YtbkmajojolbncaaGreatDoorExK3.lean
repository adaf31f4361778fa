/- One call of the closed run, by the kernel. No condition. By an AI agent. -/
import Derived.Test.YtbkmajojolbncaaGreatDoorExH
namespace Go.Proofs.YtbkmajojolbncaaGreatDoor
open Go.Ev
set_option maxRecDepth 100000
theorem hook3 : HookOk Tryz.prog hk3 := hook_of_test (hs := []) (fun _ h => by cases h) (by kernel_rfl)
end Go.Proofs.YtbkmajojolbncaaGreatDoor
