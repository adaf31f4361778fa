/- The closed run of CascadeKnown: in every world the call answers true and leaves what was there as it was. No condition. By an AI agent. -/
import Derived.Test.YtgcjgfdaophogaaGreatDoorExK0
import Derived.Test.YtgcjgfdaophogaaGreatDoorExK1
import Derived.Test.YtgcjgfdaophogaaGreatDoorExK2
namespace Go.Proofs.YtgcjgfdaophogaaGreatDoor.cascadeKnown
open Go.Ev Go.RowKit
set_option maxRecDepth 100000
theorem hooks : ∀ h ∈ [hk0, hk1, hk2, hk3, hk4, hk5], HookOk Tryz.prog h := List.forall_mem_cons.2 ⟨hook0, List.forall_mem_cons.2 ⟨hook1, List.forall_mem_cons.2 ⟨hook2, List.forall_mem_cons.2 ⟨hook3, List.forall_mem_cons.2 ⟨hook4, List.forall_mem_cons.2 ⟨hook5, fun _ h => by cases h⟩⟩⟩⟩⟩⟩
theorem mainTest : trueB (pc [hk0, hk1, hk2, hk3, hk4, hk5]) 1500 3 (Go.Ev.start 4) = true := by kernel_rfl
theorem closed (w : World) : Calls Tryz.prog 3 #[] w fun e w' => e = .returned (.bool true) ∧ Below w.heap.size w w' :=
  trueB_ok (pcOk _).1 (by rw [(pcOk _).2]; exact hooks) globals (by kernel_rfl) mainTest w
end Go.Proofs.YtgcjgfdaophogaaGreatDoor.cascadeKnown
