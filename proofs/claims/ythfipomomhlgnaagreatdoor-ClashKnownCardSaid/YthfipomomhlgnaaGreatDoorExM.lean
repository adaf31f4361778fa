/- The closed run of ClashKnown: in every world the call answers true and leaves what was there as it was. No condition. By an AI agent. -/
import Derived.Test.YthfipomomhlgnaaGreatDoorExK0
import Derived.Test.YthfipomomhlgnaaGreatDoorExK1
import Derived.Test.YthfipomomhlgnaaGreatDoorExK2
import Derived.Test.YthfipomomhlgnaaGreatDoorExK3
import Derived.Test.YthfipomomhlgnaaGreatDoorExK4
import Derived.Test.YthfipomomhlgnaaGreatDoorExK5
import Derived.Test.YthfipomomhlgnaaGreatDoorExK6
import Derived.Test.YthfipomomhlgnaaGreatDoorExK7
import Derived.Test.YthfipomomhlgnaaGreatDoorExK8
import Derived.Test.YthfipomomhlgnaaGreatDoorExK9
import Derived.Test.YthfipomomhlgnaaGreatDoorExK10
import Derived.Test.YthfipomomhlgnaaGreatDoorExK11
import Derived.Test.YthfipomomhlgnaaGreatDoorExK12
import Derived.Test.YthfipomomhlgnaaGreatDoorExK13
import Derived.Test.YthfipomomhlgnaaGreatDoorExK14
namespace Go.Proofs.YthfipomomhlgnaaGreatDoor.clashKnown
open Go.Ev Go.RowKit
set_option maxRecDepth 100000
theorem hooks : ∀ h ∈ [hk0, hk1, hk2, hk3, hk4, hk5, hk6, hk7, hk8, hk9, hk10, hk11, hk12, hk13, hk14], HookOk Tryz.prog h := List.forall_mem_cons.2 ⟨hook0, List.forall_mem_cons.2 ⟨hook1, List.forall_mem_cons.2 ⟨hook2, List.forall_mem_cons.2 ⟨hook3, List.forall_mem_cons.2 ⟨hook4, List.forall_mem_cons.2 ⟨hook5, List.forall_mem_cons.2 ⟨hook6, List.forall_mem_cons.2 ⟨hook7, List.forall_mem_cons.2 ⟨hook8, List.forall_mem_cons.2 ⟨hook9, List.forall_mem_cons.2 ⟨hook10, List.forall_mem_cons.2 ⟨hook11, List.forall_mem_cons.2 ⟨hook12, List.forall_mem_cons.2 ⟨hook13, List.forall_mem_cons.2 ⟨hook14, fun _ h => by cases h⟩⟩⟩⟩⟩⟩⟩⟩⟩⟩⟩⟩⟩⟩⟩
theorem mainTest : trueB (pc [hk0, hk1, hk2, hk3, hk4, hk5, hk6, hk7, hk8, hk9, hk10, hk11, hk12, hk13, hk14]) 1500 3 (Go.Ev.start 4) = true := by kernel_rfl
theorem closed (w : World) : Calls Tryz.prog 3 #[] w fun e w' => e = .returned (.bool true) ∧ Below w.heap.size w w' :=
  trueB_ok (pcOk _).1 (by rw [(pcOk _).2]; exact hooks) globals (by kernel_rfl) mainTest w
end Go.Proofs.YthfipomomhlgnaaGreatDoor.clashKnown
