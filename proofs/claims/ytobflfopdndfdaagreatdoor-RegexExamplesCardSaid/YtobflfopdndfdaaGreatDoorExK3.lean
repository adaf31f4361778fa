/- Calls of the closed run of RegexExamples, by the kernel. No condition. By an AI agent. -/
import Derived.Test.YtobflfopdndfdaaGreatDoorExS
namespace Go.Proofs.YtobflfopdndfdaaGreatDoor.regexExamples
open Go.Ev Go.RowKit
set_option maxRecDepth 100000
theorem hook21 : HookOk Tryz.prog hk21 := hook_of_test (hs := [hk5]) (List.forall_mem_cons.2 ⟨hook5, fun _ h => by cases h⟩) (by kernel_rfl)
end Go.Proofs.YtobflfopdndfdaaGreatDoor.regexExamples
