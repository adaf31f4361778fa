/- Calls of the closed run of ReplaceExamples, by the kernel. No condition. By an AI agent. -/
import Derived.Test.YtblpelldffaodaaGreatDoorExH
import Derived.Test.YtblpelldffaodaaGreatDoorExK4
import Derived.Test.YtblpelldffaodaaGreatDoorExK5
namespace Go.Proofs.YtblpelldffaodaaGreatDoor.replaceExamples
open Go.Ev Go.RowKit
set_option maxRecDepth 100000
theorem hook20 : HookOk Tryz.prog hk20 := hook_of_test (hs := [hk14, hk15, hk16, hk17, hk18, hk19]) (List.forall_mem_cons.2 ⟨hook14, List.forall_mem_cons.2 ⟨hook15, List.forall_mem_cons.2 ⟨hook16, List.forall_mem_cons.2 ⟨hook17, List.forall_mem_cons.2 ⟨hook18, List.forall_mem_cons.2 ⟨hook19, fun _ h => by cases h⟩⟩⟩⟩⟩⟩) (by kernel_rfl)
end Go.Proofs.YtblpelldffaodaaGreatDoor.replaceExamples
