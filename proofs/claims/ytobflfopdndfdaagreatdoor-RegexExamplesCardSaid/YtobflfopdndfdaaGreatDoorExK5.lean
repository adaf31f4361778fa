/- Calls of the closed run of RegexExamples, by the kernel. No condition. By an AI agent. -/
import Derived.Test.YtobflfopdndfdaaGreatDoorExS
namespace Go.Proofs.YtobflfopdndfdaaGreatDoor.regexExamples
open Go.Ev Go.RowKit
set_option maxRecDepth 100000
theorem hook25 : HookOk Tryz.prog hk25 := hook_of_test (hs := [hk9]) (List.forall_mem_cons.2 ⟨hook9, fun _ h => by cases h⟩) (by kernel_rfl)
theorem hook26 : HookOk Tryz.prog hk26 := hook_of_test (hs := [hk10]) (List.forall_mem_cons.2 ⟨hook10, fun _ h => by cases h⟩) (by kernel_rfl)
theorem hook27 : HookOk Tryz.prog hk27 := hook_of_test (hs := [hk11]) (List.forall_mem_cons.2 ⟨hook11, fun _ h => by cases h⟩) (by kernel_rfl)
theorem hook28 : HookOk Tryz.prog hk28 := hook_of_test (hs := [hk12]) (List.forall_mem_cons.2 ⟨hook12, fun _ h => by cases h⟩) (by kernel_rfl)
end Go.Proofs.YtobflfopdndfdaaGreatDoor.regexExamples
