/- Calls of the closed run of RegexExamples, by the kernel. No condition. By an AI agent. -/
import Derived.Test.YtobflfopdndfdaaGreatDoorExS
namespace Go.Proofs.YtobflfopdndfdaaGreatDoor.regexExamples
open Go.Ev Go.RowKit
set_option maxRecDepth 100000
theorem hook18 : HookOk Tryz.prog hk18 := hook_of_test (hs := [hk2]) (List.forall_mem_cons.2 ⟨hook2, fun _ h => by cases h⟩) (by kernel_rfl)
theorem hook19 : HookOk Tryz.prog hk19 := hook_of_test (hs := [hk3]) (List.forall_mem_cons.2 ⟨hook3, fun _ h => by cases h⟩) (by kernel_rfl)
end Go.Proofs.YtobflfopdndfdaaGreatDoor.regexExamples
