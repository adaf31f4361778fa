/-
  DERIVED. GIVEN WITH THE SEED: THE CARDS: each row of YthdlmdoppfigoaaGreatDoorRows.lean that lists a variable, with what it lists TIED to the program's text (the seventh form; the later family's looks); each row that meets fmt, with fmt's text TOLD by the authors' own Lean function (tested against real Go, not proved from fmt's source: count such statements apart). THE CARD IS WHAT COUNTS. Prove the row's statement (the work); the ties are given (YthdlmdoppfigoaaGreatDoorTie.lean); close each card by the builder's one call (the guide's Derived/Test/ToyasCard.lean, 'card_holds'). Laid BY PROGRAM, IN A SANDBOX (cutbox-door.mjs). By AI agents, Wed Nov 11 2026. No macro, syntax, notation, axiom, sorry.
-/
import Derived.Test.YthdlmdoppfigoaaGreatDoorRows
import GoSem.ClaimSeven
namespace Go.Proofs.YthdlmdoppfigoaaGreatDoor
namespace Rows

/-- THE TIED CARD OF 'abugidalaw43.TraceOrigins'. -/
def traceOriginsCard : Claim7 := { stood := { row := traceOriginsRow, standIns := [], harness := (true, "1cb12394317b60fa4c866a733950af62e41ab84b24925386444a245b8186379a"), looks := true }, kinds := [], alts := [], laidByText := true, laidKinds := [.data, .data, .data, .data, .pinned], laidTests := true, laidLooks := .later }
def TraceOriginsCardSaid : Prop := Claim7.holds Tryz.pinned (.plain (OpenSpec.ofChange traceOriginsSpec)) traceOriginsCard

/-- THE SECOND FORM's CARD OF 'abugidalaw43.TraceOrigins'. -/
def traceOriginsUptoCard : Claim7 := { stood := { row := traceOriginsUptoRow, standIns := [], harness := (true, "1cb12394317b60fa4c866a733950af62e41ab84b24925386444a245b8186379a"), looks := true }, kinds := [], alts := [], laidByText := true, laidKinds := [.data, .data, .data, .data, .pinned], laidTests := true, laidLooks := .later }
def TraceOriginsUptoCardSaid : Prop := Claim7.holds Tryz.pinned (.plain (OpenSpec.upto traceOriginsSpec)) traceOriginsUptoCard
end Rows
end Go.Proofs.YthdlmdoppfigoaaGreatDoor
