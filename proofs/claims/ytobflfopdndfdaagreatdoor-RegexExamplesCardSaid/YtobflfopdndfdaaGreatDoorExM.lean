/- The closed run of RegexExamples: in every world the call answers true and leaves what was there as it was. No condition. By an AI agent. -/
import Derived.Test.YtobflfopdndfdaaGreatDoorExK0
import Derived.Test.YtobflfopdndfdaaGreatDoorExK1
import Derived.Test.YtobflfopdndfdaaGreatDoorExK2
import Derived.Test.YtobflfopdndfdaaGreatDoorExK3
import Derived.Test.YtobflfopdndfdaaGreatDoorExK4
import Derived.Test.YtobflfopdndfdaaGreatDoorExK5
import Derived.Test.YtobflfopdndfdaaGreatDoorExK6
import Derived.Test.YtobflfopdndfdaaGreatDoorExK7
namespace Go.Proofs.YtobflfopdndfdaaGreatDoor.regexExamples
open Go.Ev Go.RowKit
set_option maxRecDepth 100000
theorem hooks : ∀ h ∈ [hk16, hk17, hk18, hk19, hk20, hk21, hk22, hk23, hk24, hk25, hk26, hk27, hk28, hk29, hk30, hk31, hk32], HookOk Tryz.prog h := List.forall_mem_cons.2 ⟨hook16, List.forall_mem_cons.2 ⟨hook17, List.forall_mem_cons.2 ⟨hook18, List.forall_mem_cons.2 ⟨hook19, List.forall_mem_cons.2 ⟨hook20, List.forall_mem_cons.2 ⟨hook21, List.forall_mem_cons.2 ⟨hook22, List.forall_mem_cons.2 ⟨hook23, List.forall_mem_cons.2 ⟨hook24, List.forall_mem_cons.2 ⟨hook25, List.forall_mem_cons.2 ⟨hook26, List.forall_mem_cons.2 ⟨hook27, List.forall_mem_cons.2 ⟨hook28, List.forall_mem_cons.2 ⟨hook29, List.forall_mem_cons.2 ⟨hook30, List.forall_mem_cons.2 ⟨hook31, List.forall_mem_cons.2 ⟨hook32, fun _ h => by cases h⟩⟩⟩⟩⟩⟩⟩⟩⟩⟩⟩⟩⟩⟩⟩⟩⟩
theorem mainTest : trueB (pc [hk16, hk17, hk18, hk19, hk20, hk21, hk22, hk23, hk24, hk25, hk26, hk27, hk28, hk29, hk30, hk31, hk32]) 1500 3 (Go.Ev.start 4) = true := by kernel_rfl
theorem closed (w : World) : Calls Tryz.prog 3 #[] w fun e w' => e = .returned (.bool true) ∧ Below w.heap.size w w' :=
  trueB_ok (pcOk _).1 (by rw [(pcOk _).2]; exact hooks) globals (by kernel_rfl) mainTest w
end Go.Proofs.YtobflfopdndfdaaGreatDoor.regexExamples
