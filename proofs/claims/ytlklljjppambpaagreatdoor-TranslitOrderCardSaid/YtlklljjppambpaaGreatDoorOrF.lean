/- Closed facts of the row of TranslitOrder, by the kernel. No condition. By an AI agent. -/
import Derived.Test.YtlklljjppambpaaGreatDoorRows
import Derived.JoinedCond
import GoSem.ClaimSeven
import Derived.Deep.DeepHandedRow
namespace Go.Proofs.YtlklljjppambpaaGreatDoor.translitOrder
open Go
set_option maxRecDepth 100000
theorem c1 : (Rows.translitOrderRow.wf (OpenSpec.ofChange (OpenSpec.ofChange Rows.translitOrderSpec).bare)) = true := by kernel_rfl
theorem c2 : (laidOutB Tryz.pinned.checked.prog) = true := by kernel_rfl
theorem c3 : (mapsRowed Tryz.pinned.checked.prog) = true := by kernel_rfl
theorem c4 : (Rows.translitOrderRow.inPlace == Tryz.pinned.checked.prog.inPlace 5) = true := by kernel_rfl
theorem c5 : (Rows.translitOrderRow.unfollowed == Tryz.pinned.checked.prog.unfollowed 5) = true := by kernel_rfl
theorem c6 : (Rows.translitOrderRow.recurses == Tryz.pinned.checked.prog.recurses 5) = true := by kernel_rfl
theorem c7 : (Rows.translitOrderRow.named == Tryz.pinned.checked.prog.varsNamed 5) = true := by kernel_rfl
theorem c8 : (Rows.translitOrderRow.plainKeys == Tryz.pinned.checked.prog.plainKeys) = true := by kernel_rfl
theorem c9 : Tryz.pinned.checked.prog.stopsHeard = true := by kernel_rfl
theorem c10 : Tryz.pinned.checked.prog.mayEnter = true := by kernel_rfl
theorem c11 : (Rows.translitOrderRow.lifted == Tryz.pinned.checked.prog.liftsFinal) = true := by kernel_rfl
theorem c12 : (Tryz.pinned.checked.prog.make == some Rows.translitOrderRow.make) = true := by kernel_rfl
theorem facts : joinedFacts Tryz.pinned.checked.prog 5 Tryz.f5 (OpenSpec.ofChange Rows.translitOrderSpec).bare Rows.translitOrderRow = true := by
  unfold joinedFacts
  rw [c1, c2, c3, c4, c5, c6, c7, c8, c9, c10, c11, c12]
  kernel_rfl
theorem looks : Tryz.pinned.checked.prog.looks [] = true := by kernel_rfl
end Go.Proofs.YtlklljjppambpaaGreatDoor.translitOrder
