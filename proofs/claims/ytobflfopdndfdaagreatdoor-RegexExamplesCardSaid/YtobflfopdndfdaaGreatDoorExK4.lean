/- Calls of the closed run of RegexExamples, by the kernel. No condition. By an AI agent. -/
import Derived.Test.YtobflfopdndfdaaGreatDoorExS
namespace Go.Proofs.YtobflfopdndfdaaGreatDoor.regexExamples
open Go.Ev Go.RowKit
set_option maxRecDepth 100000
theorem hook22 : HookOk Tryz.prog hk22 := hook_of_test (hs := [hk6]) (List.forall_mem_cons.2 ⟨hook6, fun _ h => by cases h⟩) (by kernel_rfl)
theorem hook23 : HookOk Tryz.prog hk23 := hook_of_test (hs := [hk7]) (List.forall_mem_cons.2 ⟨hook7, fun _ h => by cases h⟩) (by kernel_rfl)
theorem hook24 : HookOk Tryz.prog hk24 := hook_of_test (hs := [hk8]) (List.forall_mem_cons.2 ⟨hook8, fun _ h => by cases h⟩) (by kernel_rfl)
end Go.Proofs.YtobflfopdndfdaaGreatDoor.regexExamples
