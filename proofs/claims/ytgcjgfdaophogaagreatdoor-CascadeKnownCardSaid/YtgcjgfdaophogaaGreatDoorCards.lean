/-
  DERIVED. GIVEN WITH THE SEED: THE CARDS: each row of YtgcjgfdaophogaaGreatDoorRows.lean that lists a variable, with what it lists TIED to the program's text (the seventh form; the later family's looks); each row that meets fmt, with fmt's text TOLD by the authors' own Lean function (tested against real Go, not proved from fmt's source: count such statements apart). THE CARD IS WHAT COUNTS. Prove the row's statement (the work); the ties are given (YtgcjgfdaophogaaGreatDoorTie.lean); close each card by the builder's one call (the guide's Derived/Test/ToyasCard.lean, 'card_holds'). Laid BY PROGRAM, IN A SANDBOX (cutbox-door.mjs). By AI agents, Wed Nov 11 2026. No macro, syntax, notation, axiom, sorry.
-/
import Derived.Test.YtgcjgfdaophogaaGreatDoorRows
import GoSem.ClaimSeven
namespace Go.Proofs.YtgcjgfdaophogaaGreatDoor
namespace Rows

/-- THE TIED CARD OF 'abugidalaw30.CascadeKnown'. -/
def cascadeKnownCard : Claim7 := { stood := { row := cascadeKnownRow, standIns := [], harness := (true, "0e14356f1d13c83dd34a5a639467cab1676f4941abe353b06aadcc949cfa25da"), looks := true }, kinds := [], alts := [], laidByText := true, laidKinds := [.data, .data, .data], laidTests := true, laidLooks := .later }
def CascadeKnownCardSaid : Prop := Claim7.holds Tryz.pinned (.plain (OpenSpec.ofChange cascadeKnownSpec)) cascadeKnownCard

/-- THE SECOND FORM's CARD OF 'abugidalaw30.CascadeKnown'. -/
def cascadeKnownUptoCard : Claim7 := { stood := { row := cascadeKnownUptoRow, standIns := [], harness := (true, "0e14356f1d13c83dd34a5a639467cab1676f4941abe353b06aadcc949cfa25da"), looks := true }, kinds := [], alts := [], laidByText := true, laidKinds := [.data, .data, .data], laidTests := true, laidLooks := .later }
def CascadeKnownUptoCardSaid : Prop := Claim7.holds Tryz.pinned (.plain (OpenSpec.upto cascadeKnownSpec)) cascadeKnownUptoCard
end Rows
end Go.Proofs.YtgcjgfdaophogaaGreatDoor
