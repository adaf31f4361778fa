/- The closed run of TranslitKnown: in every world the call answers true and leaves what was there as it was. No condition. By an AI agent. -/
import Derived.Test.YtmplkbipoacmmaaGreatDoorKnB
namespace Go.Proofs.YtmplkbipoacmmaaGreatDoor.translitKnown
open Go.Ev Go.RowKit
set_option maxRecDepth 100000
theorem hooks : ∀ h ∈ [hk0, hk1], HookOk Tryz.prog h := List.forall_mem_cons.2 ⟨hook0, List.forall_mem_cons.2 ⟨hook1, fun _ h => by cases h⟩⟩
theorem mainTest : trueB (pc [hk0, hk1]) 1500 7 (Go.Ev.start 4) = true := by kernel_rfl
theorem closed (w : World) : Calls Tryz.prog 7 #[] w fun e w' => e = .returned (.bool true) ∧ Below w.heap.size w w' :=
  trueB_ok (pcOk _).1 (by rw [(pcOk _).2]; exact hooks) globals (by kernel_rfl) mainTest w
end Go.Proofs.YtmplkbipoacmmaaGreatDoor.translitKnown
