/- The closed run of ReplaceExamples: in every world the call answers true and leaves what was there as it was. No condition. By an AI agent. -/
import Derived.Test.YtblpelldffaodaaGreatDoorExK0
import Derived.Test.YtblpelldffaodaaGreatDoorExK1
import Derived.Test.YtblpelldffaodaaGreatDoorExK2
import Derived.Test.YtblpelldffaodaaGreatDoorExK3
import Derived.Test.YtblpelldffaodaaGreatDoorExK4
import Derived.Test.YtblpelldffaodaaGreatDoorExK5
import Derived.Test.YtblpelldffaodaaGreatDoorExK6
namespace Go.Proofs.YtblpelldffaodaaGreatDoor.replaceExamples
open Go.Ev Go.RowKit
set_option maxRecDepth 100000
theorem hooks : ∀ h ∈ [hk0, hk1, hk2, hk3, hk4, hk5, hk6, hk7, hk8, hk9, hk10, hk11, hk12, hk13, hk20], HookOk Tryz.prog h := List.forall_mem_cons.2 ⟨hook0, List.forall_mem_cons.2 ⟨hook1, List.forall_mem_cons.2 ⟨hook2, List.forall_mem_cons.2 ⟨hook3, List.forall_mem_cons.2 ⟨hook4, List.forall_mem_cons.2 ⟨hook5, List.forall_mem_cons.2 ⟨hook6, List.forall_mem_cons.2 ⟨hook7, List.forall_mem_cons.2 ⟨hook8, List.forall_mem_cons.2 ⟨hook9, List.forall_mem_cons.2 ⟨hook10, List.forall_mem_cons.2 ⟨hook11, List.forall_mem_cons.2 ⟨hook12, List.forall_mem_cons.2 ⟨hook13, List.forall_mem_cons.2 ⟨hook20, fun _ h => by cases h⟩⟩⟩⟩⟩⟩⟩⟩⟩⟩⟩⟩⟩⟩⟩
theorem mainTest : trueB (pc [hk0, hk1, hk2, hk3, hk4, hk5, hk6, hk7, hk8, hk9, hk10, hk11, hk12, hk13, hk20]) 300 3 (Go.Ev.start 4) = true := by kernel_rfl
theorem closed (w : World) : Calls Tryz.prog 3 #[] w fun e w' => e = .returned (.bool true) ∧ Below w.heap.size w w' :=
  trueB_ok (pcOk _).1 (by rw [(pcOk _).2]; exact hooks) globals (by kernel_rfl) mainTest w
end Go.Proofs.YtblpelldffaodaaGreatDoor.replaceExamples
