/- Closed facts of the row of TraceKnown, by the kernel. No condition. By an AI agent. -/
import Derived.Test.YtmchdfkpjnbogaaGreatDoorRows
import Derived.JoinedCond
import GoSem.ClaimSeven
import Derived.Deep.DeepHandedRow
namespace Go.Proofs.YtmchdfkpjnbogaaGreatDoor.traceKnown
open Go
set_option maxRecDepth 100000
theorem c1 : (Rows.traceKnownRow.wf (OpenSpec.ofChange (OpenSpec.ofChange Rows.traceKnownSpec).bare)) = true := by kernel_rfl
theorem c2 : (laidOutB Tryz.pinned.checked.prog) = true := by kernel_rfl
theorem c3 : (mapsRowed Tryz.pinned.checked.prog) = true := by kernel_rfl
theorem c4 : (Rows.traceKnownRow.inPlace == Tryz.pinned.checked.prog.inPlace 9) = true := by kernel_rfl
theorem c5 : (Rows.traceKnownRow.unfollowed == Tryz.pinned.checked.prog.unfollowed 9) = true := by kernel_rfl
theorem c6 : (Rows.traceKnownRow.recurses == Tryz.pinned.checked.prog.recurses 9) = true := by kernel_rfl
theorem c7 : (Rows.traceKnownRow.named == Tryz.pinned.checked.prog.varsNamed 9) = true := by kernel_rfl
theorem c8 : (Rows.traceKnownRow.plainKeys == Tryz.pinned.checked.prog.plainKeys) = true := by kernel_rfl
theorem c9 : Tryz.pinned.checked.prog.stopsHeard = true := by kernel_rfl
theorem c10 : Tryz.pinned.checked.prog.mayEnter = true := by kernel_rfl
theorem c11 : (Rows.traceKnownRow.lifted == Tryz.pinned.checked.prog.liftsFinal) = true := by kernel_rfl
theorem c12 : (Tryz.pinned.checked.prog.make == some Rows.traceKnownRow.make) = true := by kernel_rfl
theorem facts : joinedFacts Tryz.pinned.checked.prog 9 Tryz.f9 (OpenSpec.ofChange Rows.traceKnownSpec).bare Rows.traceKnownRow = true := by
  unfold joinedFacts
  rw [c1, c2, c3, c4, c5, c6, c7, c8, c9, c10, c11, c12]
  kernel_rfl
theorem looks : Tryz.pinned.checked.prog.looks [] = true := by kernel_rfl
end Go.Proofs.YtmchdfkpjnbogaaGreatDoor.traceKnown
