/-
  DERIVED. GIVEN WITH THE SEED: THE CARDS: each row of YtobflfopdndfdaaGreatDoorRows.lean that lists a variable, with what it lists TIED to the program's text (the seventh form; the later family's looks); each row that meets fmt, with fmt's text TOLD by the authors' own Lean function (tested against real Go, not proved from fmt's source: count such statements apart). THE CARD IS WHAT COUNTS. Prove the row's statement (the work); the ties are given (YtobflfopdndfdaaGreatDoorTie.lean); close each card by the builder's one call (the guide's Derived/Test/ToyasCard.lean, 'card_holds'). Laid BY PROGRAM, IN A SANDBOX (cutbox-door.mjs). By AI agents, Wed Nov 11 2026. No macro, syntax, notation, axiom, sorry.
-/
import Derived.Test.YtobflfopdndfdaaGreatDoorRows
import GoSem.ClaimSeven
namespace Go.Proofs.YtobflfopdndfdaaGreatDoor
namespace Rows

/-- THE TIED CARD OF 'abugidalaw20.RegexExamples'. -/
def regexExamplesCard : Claim7 := { stood := { row := regexExamplesRow, standIns := [], harness := (true, "6fc35d89fd85bc8ce650c6d5d20ea5a8628b4e77e138a68faa0284d832f69a4e"), looks := true }, kinds := [], alts := [], laidByText := true, laidKinds := [.data, .data, .data], laidTests := true, laidLooks := .later }
def RegexExamplesCardSaid : Prop := Claim7.holds Tryz.pinned (.plain (OpenSpec.ofChange regexExamplesSpec)) regexExamplesCard

/-- THE SECOND FORM's CARD OF 'abugidalaw20.RegexExamples'. -/
def regexExamplesUptoCard : Claim7 := { stood := { row := regexExamplesUptoRow, standIns := [], harness := (true, "6fc35d89fd85bc8ce650c6d5d20ea5a8628b4e77e138a68faa0284d832f69a4e"), looks := true }, kinds := [], alts := [], laidByText := true, laidKinds := [.data, .data, .data], laidTests := true, laidLooks := .later }
def RegexExamplesUptoCardSaid : Prop := Claim7.holds Tryz.pinned (.plain (OpenSpec.upto regexExamplesSpec)) regexExamplesUptoCard
end Rows
end Go.Proofs.YtobflfopdndfdaaGreatDoor
