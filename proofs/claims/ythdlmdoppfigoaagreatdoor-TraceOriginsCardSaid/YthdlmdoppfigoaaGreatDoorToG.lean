/- Closed facts of the card of TraceOrigins, by the kernel. No condition. By an AI agent. -/
import Derived.Test.YthdlmdoppfigoaaGreatDoorCards
import GoSem.ClaimSeven
import Derived.KernelRfl
namespace Go.Proofs.YthdlmdoppfigoaaGreatDoor.traceOrigins
open Go
set_option maxRecDepth 100000
theorem wfT : Rows.traceOriginsRow.wfByText (OpenSpec.ofChange Rows.traceOriginsSpec) = true := by kernel_rfl
theorem mainT : Tryz.pinned.checked.prog.mainIs = some (Rows.traceOriginsCard.stood.harness.1, Rows.traceOriginsCard.stood.harness.2.toList) := by kernel_rfl
theorem goes_none {P : Program} (h : P.funcs.any Func.goes = false) (c : OpenClaim) : false = c.goesBy P := by
  have h1 : ∀ g : Nat, ((P.funcs[g]?).any Func.goes) = false := fun g => by
    cases e : P.funcs[g]? with
    | none => rfl
    | some fn =>
      have := Array.any_eq_false.1 h g (Array.getElem?_eq_some_iff.1 e).1
      rw [(Array.getElem?_eq_some_iff.1 e).2] at this
      simpa using this
  have h2 : ∀ f, P.goes f = false := fun f => by
    unfold Program.goes
    rw [h]
    simp [h1]
  unfold OpenClaim.goesBy Program.goesAt Program.goesFrom
  cases P.funcNamed c.func <;> cases c.start <;> simp [h2]
theorem goesNone : Tryz.pinned.checked.prog.funcs.any Func.goes = false := by kernel_rfl
theorem goesT : false = Rows.traceOriginsRow.goesBy Tryz.pinned.checked.prog := goes_none goesNone _
end Go.Proofs.YthdlmdoppfigoaaGreatDoor.traceOrigins
