/- Calls of the closed run of RegexExamples, by the kernel. No condition. By an AI agent. -/
import Derived.Test.YtobflfopdndfdaaGreatDoorExS
namespace Go.Proofs.YtobflfopdndfdaaGreatDoor.regexExamples
open Go.Ev Go.RowKit
set_option maxRecDepth 100000
theorem hook16 : HookOk Tryz.prog hk16 := hook_of_test (hs := [hk0]) (List.forall_mem_cons.2 ⟨hook0, fun _ h => by cases h⟩) (by kernel_rfl)
theorem hook17 : HookOk Tryz.prog hk17 := hook_of_test (hs := [hk1]) (List.forall_mem_cons.2 ⟨hook1, fun _ h => by cases h⟩) (by kernel_rfl)
end Go.Proofs.YtobflfopdndfdaaGreatDoor.regexExamples
