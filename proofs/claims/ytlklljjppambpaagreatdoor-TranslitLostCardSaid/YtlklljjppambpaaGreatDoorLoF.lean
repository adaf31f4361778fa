/- Closed facts of the row of TranslitLost, by the kernel. No condition. By an AI agent. -/
import Derived.Test.YtlklljjppambpaaGreatDoorRows
import Derived.JoinedCond
import GoSem.ClaimSeven
import Derived.Deep.DeepHandedRow
namespace Go.Proofs.YtlklljjppambpaaGreatDoor.translitLost
open Go
set_option maxRecDepth 100000
theorem c1 : (Rows.translitLostRow.wf (OpenSpec.ofChange (OpenSpec.ofChange Rows.translitLostSpec).bare)) = true := by kernel_rfl
theorem c2 : (laidOutB Tryz.pinned.checked.prog) = true := by kernel_rfl
theorem c3 : (mapsRowed Tryz.pinned.checked.prog) = true := by kernel_rfl
theorem c4 : (Rows.translitLostRow.inPlace == Tryz.pinned.checked.prog.inPlace 6) = true := by kernel_rfl
theorem c5 : (Rows.translitLostRow.unfollowed == Tryz.pinned.checked.prog.unfollowed 6) = true := by kernel_rfl
theorem c6 : (Rows.translitLostRow.recurses == Tryz.pinned.checked.prog.recurses 6) = true := by kernel_rfl
theorem c7 : (Rows.translitLostRow.named == Tryz.pinned.checked.prog.varsNamed 6) = true := by kernel_rfl
theorem c8 : (Rows.translitLostRow.plainKeys == Tryz.pinned.checked.prog.plainKeys) = true := by kernel_rfl
theorem c9 : Tryz.pinned.checked.prog.stopsHeard = true := by kernel_rfl
theorem c10 : Tryz.pinned.checked.prog.mayEnter = true := by kernel_rfl
theorem c11 : (Rows.translitLostRow.lifted == Tryz.pinned.checked.prog.liftsFinal) = true := by kernel_rfl
theorem c12 : (Tryz.pinned.checked.prog.make == some Rows.translitLostRow.make) = true := by kernel_rfl
theorem facts : joinedFacts Tryz.pinned.checked.prog 6 Tryz.f6 (OpenSpec.ofChange Rows.translitLostSpec).bare Rows.translitLostRow = true := by
  unfold joinedFacts
  rw [c1, c2, c3, c4, c5, c6, c7, c8, c9, c10, c11, c12]
  kernel_rfl
theorem looks : Tryz.pinned.checked.prog.looks [] = true := by kernel_rfl
end Go.Proofs.YtlklljjppambpaaGreatDoor.translitLost
