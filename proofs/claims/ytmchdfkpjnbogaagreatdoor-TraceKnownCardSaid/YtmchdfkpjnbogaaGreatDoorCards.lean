/-
  DERIVED. GIVEN WITH THE SEED: THE CARDS: each row of YtmchdfkpjnbogaaGreatDoorRows.lean that lists a variable, with what it lists TIED to the program's text (the seventh form; the later family's looks); each row that meets fmt, with fmt's text TOLD by the authors' own Lean function (tested against real Go, not proved from fmt's source: count such statements apart). THE CARD IS WHAT COUNTS. Prove the row's statement (the work); the ties are given (YtmchdfkpjnbogaaGreatDoorTie.lean); close each card by the builder's one call (the guide's Derived/Test/ToyasCard.lean, 'card_holds'). Laid BY PROGRAM, IN A SANDBOX (cutbox-door.mjs). By AI agents, Wed Nov 11 2026. No macro, syntax, notation, axiom, sorry.
-/
import Derived.Test.YtmchdfkpjnbogaaGreatDoorRows
import GoSem.ClaimSeven
namespace Go.Proofs.YtmchdfkpjnbogaaGreatDoor
namespace Rows

/-- THE TIED CARD OF 'abugidalaw43.TraceSteps'. -/
def traceStepsCard : Claim7 := { stood := { row := traceStepsRow, standIns := [], harness := (true, "8a013d8a050d16fb6598a88c33d01bfb80a7ae398c75675a4f6899e09893466d"), looks := true }, kinds := [], alts := [], laidByText := true, laidKinds := [.data, .data, .data, .data, .pinned], laidTests := true, laidLooks := .later }
def TraceStepsCardSaid : Prop := Claim7.holds Tryz.pinned (.plain (OpenSpec.ofChange traceStepsSpec)) traceStepsCard

/-- THE TIED CARD OF 'abugidalaw43.TraceOrigins'. -/
def traceOriginsCard : Claim7 := { stood := { row := traceOriginsRow, standIns := [], harness := (true, "8a013d8a050d16fb6598a88c33d01bfb80a7ae398c75675a4f6899e09893466d"), looks := true }, kinds := [], alts := [], laidByText := true, laidKinds := [.data, .data, .data, .data, .pinned], laidTests := true, laidLooks := .later }
def TraceOriginsCardSaid : Prop := Claim7.holds Tryz.pinned (.plain (OpenSpec.ofChange traceOriginsSpec)) traceOriginsCard

/-- THE TIED CARD OF 'abugidalaw43.TraceTexts'. -/
def traceTextsCard : Claim7 := { stood := { row := traceTextsRow, standIns := [], harness := (true, "8a013d8a050d16fb6598a88c33d01bfb80a7ae398c75675a4f6899e09893466d"), looks := true }, kinds := [], alts := [], laidByText := true, laidKinds := [.data, .data, .data, .data, .pinned], laidTests := true, laidLooks := .later }
def TraceTextsCardSaid : Prop := Claim7.holds Tryz.pinned (.plain (OpenSpec.ofChange traceTextsSpec)) traceTextsCard

/-- THE TIED CARD OF 'abugidalaw43.TraceFits'. -/
def traceFitsCard : Claim7 := { stood := { row := traceFitsRow, standIns := [], harness := (true, "8a013d8a050d16fb6598a88c33d01bfb80a7ae398c75675a4f6899e09893466d"), looks := true }, kinds := [], alts := [], laidByText := true, laidKinds := [.data, .data, .data, .data, .pinned], laidTests := true, laidLooks := .later }
def TraceFitsCardSaid : Prop := Claim7.holds Tryz.pinned (.plain (OpenSpec.ofChange traceFitsSpec)) traceFitsCard

/-- THE TIED CARD OF 'abugidalaw43.TraceBegins'. -/
def traceBeginsCard : Claim7 := { stood := { row := traceBeginsRow, standIns := [], harness := (true, "8a013d8a050d16fb6598a88c33d01bfb80a7ae398c75675a4f6899e09893466d"), looks := true }, kinds := [], alts := [], laidByText := true, laidKinds := [.data, .data, .data, .data, .pinned], laidTests := true, laidLooks := .later }
def TraceBeginsCardSaid : Prop := Claim7.holds Tryz.pinned (.plain (OpenSpec.ofChange traceBeginsSpec)) traceBeginsCard

/-- THE TIED CARD OF 'abugidalaw43.TraceLines'. -/
def traceLinesCard : Claim7 := { stood := { row := traceLinesRow, standIns := [], harness := (true, "8a013d8a050d16fb6598a88c33d01bfb80a7ae398c75675a4f6899e09893466d"), looks := true }, kinds := [], alts := [], laidByText := true, laidKinds := [.data, .data, .data, .data, .pinned], laidTests := true, laidLooks := .later }
def TraceLinesCardSaid : Prop := Claim7.holds Tryz.pinned (.plain (OpenSpec.ofChange traceLinesSpec)) traceLinesCard

/-- THE TIED CARD OF 'abugidalaw43.TraceKnown'. -/
def traceKnownCard : Claim7 := { stood := { row := traceKnownRow, standIns := [], harness := (true, "8a013d8a050d16fb6598a88c33d01bfb80a7ae398c75675a4f6899e09893466d"), looks := true }, kinds := [], alts := [], laidByText := true, laidKinds := [.data, .data, .data, .data, .pinned], laidTests := true, laidLooks := .later }
def TraceKnownCardSaid : Prop := Claim7.holds Tryz.pinned (.plain (OpenSpec.ofChange traceKnownSpec)) traceKnownCard

/-- THE TIED CARD OF 'abugidalaw43.TraceYields'. -/
def traceYieldsCard : Claim7 := { stood := { row := traceYieldsRow, standIns := [], harness := (true, "8a013d8a050d16fb6598a88c33d01bfb80a7ae398c75675a4f6899e09893466d"), looks := true }, kinds := [], alts := [], laidByText := true, laidKinds := [.data, .data, .data, .data, .pinned], laidTests := true, laidLooks := .later }
def TraceYieldsCardSaid : Prop := Claim7.holds Tryz.pinned (.plain (OpenSpec.ofChange traceYieldsSpec)) traceYieldsCard

/-- THE SECOND FORM's CARD OF 'abugidalaw43.TraceSteps'. -/
def traceStepsUptoCard : Claim7 := { stood := { row := traceStepsUptoRow, standIns := [], harness := (true, "8a013d8a050d16fb6598a88c33d01bfb80a7ae398c75675a4f6899e09893466d"), looks := true }, kinds := [], alts := [], laidByText := true, laidKinds := [.data, .data, .data, .data, .pinned], laidTests := true, laidLooks := .later }
def TraceStepsUptoCardSaid : Prop := Claim7.holds Tryz.pinned (.plain (OpenSpec.upto traceStepsSpec)) traceStepsUptoCard

/-- THE SECOND FORM's CARD OF 'abugidalaw43.TraceOrigins'. -/
def traceOriginsUptoCard : Claim7 := { stood := { row := traceOriginsUptoRow, standIns := [], harness := (true, "8a013d8a050d16fb6598a88c33d01bfb80a7ae398c75675a4f6899e09893466d"), looks := true }, kinds := [], alts := [], laidByText := true, laidKinds := [.data, .data, .data, .data, .pinned], laidTests := true, laidLooks := .later }
def TraceOriginsUptoCardSaid : Prop := Claim7.holds Tryz.pinned (.plain (OpenSpec.upto traceOriginsSpec)) traceOriginsUptoCard

/-- THE SECOND FORM's CARD OF 'abugidalaw43.TraceTexts'. -/
def traceTextsUptoCard : Claim7 := { stood := { row := traceTextsUptoRow, standIns := [], harness := (true, "8a013d8a050d16fb6598a88c33d01bfb80a7ae398c75675a4f6899e09893466d"), looks := true }, kinds := [], alts := [], laidByText := true, laidKinds := [.data, .data, .data, .data, .pinned], laidTests := true, laidLooks := .later }
def TraceTextsUptoCardSaid : Prop := Claim7.holds Tryz.pinned (.plain (OpenSpec.upto traceTextsSpec)) traceTextsUptoCard

/-- THE SECOND FORM's CARD OF 'abugidalaw43.TraceFits'. -/
def traceFitsUptoCard : Claim7 := { stood := { row := traceFitsUptoRow, standIns := [], harness := (true, "8a013d8a050d16fb6598a88c33d01bfb80a7ae398c75675a4f6899e09893466d"), looks := true }, kinds := [], alts := [], laidByText := true, laidKinds := [.data, .data, .data, .data, .pinned], laidTests := true, laidLooks := .later }
def TraceFitsUptoCardSaid : Prop := Claim7.holds Tryz.pinned (.plain (OpenSpec.upto traceFitsSpec)) traceFitsUptoCard

/-- THE SECOND FORM's CARD OF 'abugidalaw43.TraceBegins'. -/
def traceBeginsUptoCard : Claim7 := { stood := { row := traceBeginsUptoRow, standIns := [], harness := (true, "8a013d8a050d16fb6598a88c33d01bfb80a7ae398c75675a4f6899e09893466d"), looks := true }, kinds := [], alts := [], laidByText := true, laidKinds := [.data, .data, .data, .data, .pinned], laidTests := true, laidLooks := .later }
def TraceBeginsUptoCardSaid : Prop := Claim7.holds Tryz.pinned (.plain (OpenSpec.upto traceBeginsSpec)) traceBeginsUptoCard

/-- THE SECOND FORM's CARD OF 'abugidalaw43.TraceLines'. -/
def traceLinesUptoCard : Claim7 := { stood := { row := traceLinesUptoRow, standIns := [], harness := (true, "8a013d8a050d16fb6598a88c33d01bfb80a7ae398c75675a4f6899e09893466d"), looks := true }, kinds := [], alts := [], laidByText := true, laidKinds := [.data, .data, .data, .data, .pinned], laidTests := true, laidLooks := .later }
def TraceLinesUptoCardSaid : Prop := Claim7.holds Tryz.pinned (.plain (OpenSpec.upto traceLinesSpec)) traceLinesUptoCard

/-- THE SECOND FORM's CARD OF 'abugidalaw43.TraceKnown'. -/
def traceKnownUptoCard : Claim7 := { stood := { row := traceKnownUptoRow, standIns := [], harness := (true, "8a013d8a050d16fb6598a88c33d01bfb80a7ae398c75675a4f6899e09893466d"), looks := true }, kinds := [], alts := [], laidByText := true, laidKinds := [.data, .data, .data, .data, .pinned], laidTests := true, laidLooks := .later }
def TraceKnownUptoCardSaid : Prop := Claim7.holds Tryz.pinned (.plain (OpenSpec.upto traceKnownSpec)) traceKnownUptoCard

/-- THE SECOND FORM's CARD OF 'abugidalaw43.TraceYields'. -/
def traceYieldsUptoCard : Claim7 := { stood := { row := traceYieldsUptoRow, standIns := [], harness := (true, "8a013d8a050d16fb6598a88c33d01bfb80a7ae398c75675a4f6899e09893466d"), looks := true }, kinds := [], alts := [], laidByText := true, laidKinds := [.data, .data, .data, .data, .pinned], laidTests := true, laidLooks := .later }
def TraceYieldsUptoCardSaid : Prop := Claim7.holds Tryz.pinned (.plain (OpenSpec.upto traceYieldsSpec)) traceYieldsUptoCard
end Rows
end Go.Proofs.YtmchdfkpjnbogaaGreatDoor
