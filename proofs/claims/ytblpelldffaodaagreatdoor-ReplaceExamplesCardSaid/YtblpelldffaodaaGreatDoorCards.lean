/-
  DERIVED. GIVEN WITH THE SEED: THE CARDS: each row of YtblpelldffaodaaGreatDoorRows.lean that lists a variable, with what it lists TIED to the program's text (the seventh form; the later family's looks); each row that meets fmt, with fmt's text TOLD by the authors' own Lean function (tested against real Go, not proved from fmt's source: count such statements apart). THE CARD IS WHAT COUNTS. Prove the row's statement (the work); the ties are given (YtblpelldffaodaaGreatDoorTie.lean); close each card by the builder's one call (the guide's Derived/Test/ToyasCard.lean, 'card_holds'). Laid BY PROGRAM, IN A SANDBOX (cutbox-door.mjs). By AI agents, Wed Nov 11 2026. No macro, syntax, notation, axiom, sorry.
-/
import Derived.Test.YtblpelldffaodaaGreatDoorRows
import GoSem.ClaimSeven
namespace Go.Proofs.YtblpelldffaodaaGreatDoor
namespace Rows

/-- THE TIED CARD OF 'abugidalaw29.ReplaceExamples'. -/
def replaceExamplesCard : Claim7 := { stood := { row := replaceExamplesRow, standIns := [], harness := (true, "417b4b86ec2a55f87e3baff5ee9d6ae2f05aabf9c2ba686308cd93db4b6307cd"), looks := true }, kinds := [], alts := [], laidByText := true, laidKinds := [.data, .data, .data], laidTests := true, laidLooks := .later }
def ReplaceExamplesCardSaid : Prop := Claim7.holds Tryz.pinned (.plain (OpenSpec.ofChange replaceExamplesSpec)) replaceExamplesCard

/-- THE TIED CARD OF 'abugidalaw29.ReplaceYields'. -/
def replaceYieldsCard : Claim7 := { stood := { row := replaceYieldsRow, standIns := [], harness := (true, "417b4b86ec2a55f87e3baff5ee9d6ae2f05aabf9c2ba686308cd93db4b6307cd"), looks := true }, kinds := [], alts := [], laidByText := true, laidKinds := [.data, .data, .data], laidTests := true, laidLooks := .later }
def ReplaceYieldsCardSaid : Prop := Claim7.holds Tryz.pinned (.plain (OpenSpec.ofChange replaceYieldsSpec)) replaceYieldsCard

/-- THE TIED CARD OF 'abugidalaw29.ReplaceOutputs'. -/
def replaceOutputsCard : Claim7 := { stood := { row := replaceOutputsRow, standIns := [], harness := (true, "417b4b86ec2a55f87e3baff5ee9d6ae2f05aabf9c2ba686308cd93db4b6307cd"), looks := true }, kinds := [], alts := [], laidByText := true, laidKinds := [.data, .data, .data], laidTests := true, laidLooks := .later }
def ReplaceOutputsCardSaid : Prop := Claim7.holds Tryz.pinned (.plain (OpenSpec.ofChange replaceOutputsSpec)) replaceOutputsCard

/-- THE TIED CARD OF 'abugidalaw29.ReplaceOne'. -/
def replaceOneCard : Claim7 := { stood := { row := replaceOneRow, standIns := [], harness := (true, "417b4b86ec2a55f87e3baff5ee9d6ae2f05aabf9c2ba686308cd93db4b6307cd"), looks := true }, kinds := [], alts := [], laidByText := true, laidKinds := [.data, .data, .data], laidTests := true, laidLooks := .later }
def ReplaceOneCardSaid : Prop := Claim7.holds Tryz.pinned (.plain (OpenSpec.ofChange replaceOneSpec)) replaceOneCard

/-- THE TIED CARD OF 'abugidalaw29.ReplaceBackwards'. -/
def replaceBackwardsCard : Claim7 := { stood := { row := replaceBackwardsRow, standIns := [], harness := (true, "417b4b86ec2a55f87e3baff5ee9d6ae2f05aabf9c2ba686308cd93db4b6307cd"), looks := true }, kinds := [], alts := [], laidByText := true, laidKinds := [.data, .data, .data], laidTests := true, laidLooks := .later }
def ReplaceBackwardsCardSaid : Prop := Claim7.holds Tryz.pinned (.plain (OpenSpec.ofChange replaceBackwardsSpec)) replaceBackwardsCard

/-- THE TIED CARD OF 'abugidalaw29.ReplaceCopies'. -/
def replaceCopiesCard : Claim7 := { stood := { row := replaceCopiesRow, standIns := [], harness := (true, "417b4b86ec2a55f87e3baff5ee9d6ae2f05aabf9c2ba686308cd93db4b6307cd"), looks := true }, kinds := [], alts := [], laidByText := true, laidKinds := [.data, .data, .data], laidTests := true, laidLooks := .later }
def ReplaceCopiesCardSaid : Prop := Claim7.holds Tryz.pinned (.plain (OpenSpec.ofChange replaceCopiesSpec)) replaceCopiesCard

/-- THE TIED CARD OF 'abugidalaw29.ReplaceMarked'. -/
def replaceMarkedCard : Claim7 := { stood := { row := replaceMarkedRow, standIns := [], harness := (true, "417b4b86ec2a55f87e3baff5ee9d6ae2f05aabf9c2ba686308cd93db4b6307cd"), looks := true }, kinds := [], alts := [], laidByText := true, laidKinds := [.data, .data, .data], laidTests := true, laidLooks := .later }
def ReplaceMarkedCardSaid : Prop := Claim7.holds Tryz.pinned (.plain (OpenSpec.ofChange replaceMarkedSpec)) replaceMarkedCard

/-- THE TIED CARD OF 'abugidalaw29.ReplaceMarks'. -/
def replaceMarksCard : Claim7 := { stood := { row := replaceMarksRow, standIns := [], harness := (true, "417b4b86ec2a55f87e3baff5ee9d6ae2f05aabf9c2ba686308cd93db4b6307cd"), looks := true }, kinds := [], alts := [], laidByText := true, laidKinds := [.data, .data, .data], laidTests := true, laidLooks := .later }
def ReplaceMarksCardSaid : Prop := Claim7.holds Tryz.pinned (.plain (OpenSpec.ofChange replaceMarksSpec)) replaceMarksCard

/-- THE SECOND FORM's CARD OF 'abugidalaw29.ReplaceExamples'. -/
def replaceExamplesUptoCard : Claim7 := { stood := { row := replaceExamplesUptoRow, standIns := [], harness := (true, "417b4b86ec2a55f87e3baff5ee9d6ae2f05aabf9c2ba686308cd93db4b6307cd"), looks := true }, kinds := [], alts := [], laidByText := true, laidKinds := [.data, .data, .data], laidTests := true, laidLooks := .later }
def ReplaceExamplesUptoCardSaid : Prop := Claim7.holds Tryz.pinned (.plain (OpenSpec.upto replaceExamplesSpec)) replaceExamplesUptoCard

/-- THE SECOND FORM's CARD OF 'abugidalaw29.ReplaceYields'. -/
def replaceYieldsUptoCard : Claim7 := { stood := { row := replaceYieldsUptoRow, standIns := [], harness := (true, "417b4b86ec2a55f87e3baff5ee9d6ae2f05aabf9c2ba686308cd93db4b6307cd"), looks := true }, kinds := [], alts := [], laidByText := true, laidKinds := [.data, .data, .data], laidTests := true, laidLooks := .later }
def ReplaceYieldsUptoCardSaid : Prop := Claim7.holds Tryz.pinned (.plain (OpenSpec.upto replaceYieldsSpec)) replaceYieldsUptoCard

/-- THE SECOND FORM's CARD OF 'abugidalaw29.ReplaceOutputs'. -/
def replaceOutputsUptoCard : Claim7 := { stood := { row := replaceOutputsUptoRow, standIns := [], harness := (true, "417b4b86ec2a55f87e3baff5ee9d6ae2f05aabf9c2ba686308cd93db4b6307cd"), looks := true }, kinds := [], alts := [], laidByText := true, laidKinds := [.data, .data, .data], laidTests := true, laidLooks := .later }
def ReplaceOutputsUptoCardSaid : Prop := Claim7.holds Tryz.pinned (.plain (OpenSpec.upto replaceOutputsSpec)) replaceOutputsUptoCard

/-- THE SECOND FORM's CARD OF 'abugidalaw29.ReplaceOne'. -/
def replaceOneUptoCard : Claim7 := { stood := { row := replaceOneUptoRow, standIns := [], harness := (true, "417b4b86ec2a55f87e3baff5ee9d6ae2f05aabf9c2ba686308cd93db4b6307cd"), looks := true }, kinds := [], alts := [], laidByText := true, laidKinds := [.data, .data, .data], laidTests := true, laidLooks := .later }
def ReplaceOneUptoCardSaid : Prop := Claim7.holds Tryz.pinned (.plain (OpenSpec.upto replaceOneSpec)) replaceOneUptoCard

/-- THE SECOND FORM's CARD OF 'abugidalaw29.ReplaceBackwards'. -/
def replaceBackwardsUptoCard : Claim7 := { stood := { row := replaceBackwardsUptoRow, standIns := [], harness := (true, "417b4b86ec2a55f87e3baff5ee9d6ae2f05aabf9c2ba686308cd93db4b6307cd"), looks := true }, kinds := [], alts := [], laidByText := true, laidKinds := [.data, .data, .data], laidTests := true, laidLooks := .later }
def ReplaceBackwardsUptoCardSaid : Prop := Claim7.holds Tryz.pinned (.plain (OpenSpec.upto replaceBackwardsSpec)) replaceBackwardsUptoCard

/-- THE SECOND FORM's CARD OF 'abugidalaw29.ReplaceCopies'. -/
def replaceCopiesUptoCard : Claim7 := { stood := { row := replaceCopiesUptoRow, standIns := [], harness := (true, "417b4b86ec2a55f87e3baff5ee9d6ae2f05aabf9c2ba686308cd93db4b6307cd"), looks := true }, kinds := [], alts := [], laidByText := true, laidKinds := [.data, .data, .data], laidTests := true, laidLooks := .later }
def ReplaceCopiesUptoCardSaid : Prop := Claim7.holds Tryz.pinned (.plain (OpenSpec.upto replaceCopiesSpec)) replaceCopiesUptoCard

/-- THE SECOND FORM's CARD OF 'abugidalaw29.ReplaceMarked'. -/
def replaceMarkedUptoCard : Claim7 := { stood := { row := replaceMarkedUptoRow, standIns := [], harness := (true, "417b4b86ec2a55f87e3baff5ee9d6ae2f05aabf9c2ba686308cd93db4b6307cd"), looks := true }, kinds := [], alts := [], laidByText := true, laidKinds := [.data, .data, .data], laidTests := true, laidLooks := .later }
def ReplaceMarkedUptoCardSaid : Prop := Claim7.holds Tryz.pinned (.plain (OpenSpec.upto replaceMarkedSpec)) replaceMarkedUptoCard

/-- THE SECOND FORM's CARD OF 'abugidalaw29.ReplaceMarks'. -/
def replaceMarksUptoCard : Claim7 := { stood := { row := replaceMarksUptoRow, standIns := [], harness := (true, "417b4b86ec2a55f87e3baff5ee9d6ae2f05aabf9c2ba686308cd93db4b6307cd"), looks := true }, kinds := [], alts := [], laidByText := true, laidKinds := [.data, .data, .data], laidTests := true, laidLooks := .later }
def ReplaceMarksUptoCardSaid : Prop := Claim7.holds Tryz.pinned (.plain (OpenSpec.upto replaceMarksSpec)) replaceMarksUptoCard
end Rows
end Go.Proofs.YtblpelldffaodaaGreatDoor
