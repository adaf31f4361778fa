/- The closed run of TraceKnown: in every world the call answers true and leaves what was there as it was. No condition. By an AI agent. -/
import Derived.Test.YtmchdfkpjnbogaaGreatDoorExH
namespace Go.Proofs.YtmchdfkpjnbogaaGreatDoor.traceKnown
open Go.Ev Go.RowKit
set_option maxRecDepth 100000
theorem hooks : ∀ h ∈ [], HookOk Tryz.prog h := fun _ h => by cases h
theorem mainTest : trueB (pc []) 1500 9 (Go.Ev.start 6) = true := by kernel_rfl
theorem closed (w : World) : Calls Tryz.prog 9 #[] w fun e w' => e = .returned (.bool true) ∧ Below w.heap.size w w' :=
  trueB_ok (pcOk _).1 (by rw [(pcOk _).2]; exact hooks) globals (by kernel_rfl) mainTest w
end Go.Proofs.YtmchdfkpjnbogaaGreatDoor.traceKnown
