/- Closed facts of the row of TraceOrigins, by the kernel. No condition. By an AI agent. -/
import Derived.Test.YthdlmdoppfigoaaGreatDoorRows
import Derived.JoinedCond
import GoSem.ClaimSeven
import Derived.Deep.DeepHandedRow
namespace Go.Proofs.YthdlmdoppfigoaaGreatDoor.traceOrigins
open Go
set_option maxRecDepth 100000
theorem c1 : (Rows.traceOriginsRow.wf (OpenSpec.ofChange (OpenSpec.ofChange Rows.traceOriginsSpec).bare)) = true := by kernel_rfl
theorem c2 : (laidOutB Tryz.pinned.checked.prog) = true := by kernel_rfl
theorem c3 : (mapsRowed Tryz.pinned.checked.prog) = true := by kernel_rfl
theorem c4 : (Rows.traceOriginsRow.inPlace == Tryz.pinned.checked.prog.inPlace 3) = true := by kernel_rfl
theorem c5 : (Rows.traceOriginsRow.unfollowed == Tryz.pinned.checked.prog.unfollowed 3) = true := by kernel_rfl
theorem c6 : (Rows.traceOriginsRow.recurses == Tryz.pinned.checked.prog.recurses 3) = true := by kernel_rfl
theorem c7 : (Rows.traceOriginsRow.named == Tryz.pinned.checked.prog.varsNamed 3) = true := by kernel_rfl
theorem c8 : (Rows.traceOriginsRow.plainKeys == Tryz.pinned.checked.prog.plainKeys) = true := by kernel_rfl
theorem c9 : Tryz.pinned.checked.prog.stopsHeard = true := by kernel_rfl
theorem c10 : Tryz.pinned.checked.prog.mayEnter = true := by kernel_rfl
theorem c11 : (Rows.traceOriginsRow.lifted == Tryz.pinned.checked.prog.liftsFinal) = true := by kernel_rfl
theorem c12 : (Tryz.pinned.checked.prog.make == some Rows.traceOriginsRow.make) = true := by kernel_rfl
theorem facts : joinedFacts Tryz.pinned.checked.prog 3 Tryz.f3 (OpenSpec.ofChange Rows.traceOriginsSpec).bare Rows.traceOriginsRow = true := by
  unfold joinedFacts
  rw [c1, c2, c3, c4, c5, c6, c7, c8, c9, c10, c11, c12]
  kernel_rfl
theorem looks : Tryz.pinned.checked.prog.looks [] = true := by kernel_rfl
end Go.Proofs.YthdlmdoppfigoaaGreatDoor.traceOrigins
