/- Calls of the closed run of RegexExamples, by the kernel. No condition. By an AI agent. -/
import Derived.Test.YtobflfopdndfdaaGreatDoorExS
namespace Go.Proofs.YtobflfopdndfdaaGreatDoor.regexExamples
open Go.Ev Go.RowKit
set_option maxRecDepth 100000
theorem hook29 : HookOk Tryz.prog hk29 := hook_of_test (hs := [hk13]) (List.forall_mem_cons.2 ⟨hook13, fun _ h => by cases h⟩) (by kernel_rfl)
theorem hook30 : HookOk Tryz.prog hk30 := hook_of_test (hs := [hk14]) (List.forall_mem_cons.2 ⟨hook14, fun _ h => by cases h⟩) (by kernel_rfl)
end Go.Proofs.YtobflfopdndfdaaGreatDoor.regexExamples
