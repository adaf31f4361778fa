/-
  DERIVED. GIVEN WITH THE SEED: THE CARDS: each row of YthfipomomhlgnaaGreatDoorRows.lean that lists a variable, with what it lists TIED to the program's text (the seventh form; the later family's looks); each row that meets fmt, with fmt's text TOLD by the authors' own Lean function (tested against real Go, not proved from fmt's source: count such statements apart). THE CARD IS WHAT COUNTS. Prove the row's statement (the work); the ties are given (YthfipomomhlgnaaGreatDoorTie.lean); close each card by the builder's one call (the guide's Derived/Test/ToyasCard.lean, 'card_holds'). Laid BY PROGRAM, IN A SANDBOX (cutbox-door.mjs). By AI agents, Wed Nov 11 2026. No macro, syntax, notation, axiom, sorry.
-/
import Derived.Test.YthfipomomhlgnaaGreatDoorRows
import GoSem.ClaimSeven
namespace Go.Proofs.YthfipomomhlgnaaGreatDoor
namespace Rows

/-- THE TIED CARD OF 'abugidalaw26.ClashKnown'. -/
def clashKnownCard : Claim7 := { stood := { row := clashKnownRow, standIns := [], harness := (true, "d2c27f165a7438bc039d0b7be8353eb459c7d6c028e42c145fe14fc4f030cfcd"), looks := true }, kinds := [], alts := [], laidByText := true, laidKinds := [.data, .data, .data], laidTests := true, laidLooks := .later }
def ClashKnownCardSaid : Prop := Claim7.holds Tryz.pinned (.plain (OpenSpec.ofChange clashKnownSpec)) clashKnownCard

/-- THE SECOND FORM's CARD OF 'abugidalaw26.ClashKnown'. -/
def clashKnownUptoCard : Claim7 := { stood := { row := clashKnownUptoRow, standIns := [], harness := (true, "d2c27f165a7438bc039d0b7be8353eb459c7d6c028e42c145fe14fc4f030cfcd"), looks := true }, kinds := [], alts := [], laidByText := true, laidKinds := [.data, .data, .data], laidTests := true, laidLooks := .later }
def ClashKnownUptoCardSaid : Prop := Claim7.holds Tryz.pinned (.plain (OpenSpec.upto clashKnownSpec)) clashKnownUptoCard
end Rows
end Go.Proofs.YthfipomomhlgnaaGreatDoor
