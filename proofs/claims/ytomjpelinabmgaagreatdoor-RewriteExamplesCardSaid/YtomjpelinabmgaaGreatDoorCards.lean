/-
  DERIVED. GIVEN WITH THE SEED: THE CARDS: each row of YtomjpelinabmgaaGreatDoorRows.lean that lists a variable, with what it lists TIED to the program's text (the seventh form; the later family's looks); each row that meets fmt, with fmt's text TOLD by the authors' own Lean function (tested against real Go, not proved from fmt's source: count such statements apart). THE CARD IS WHAT COUNTS. Prove the row's statement (the work); the ties are given (YtomjpelinabmgaaGreatDoorTie.lean); close each card by the builder's one call (the guide's Derived/Test/ToyasCard.lean, 'card_holds'). Laid BY PROGRAM, IN A SANDBOX (cutbox-door.mjs). By AI agents, Wed Nov 11 2026. No macro, syntax, notation, axiom, sorry.
-/
import Derived.Test.YtomjpelinabmgaaGreatDoorRows
import GoSem.ClaimSeven
namespace Go.Proofs.YtomjpelinabmgaaGreatDoor
namespace Rows

/-- THE TIED CARD OF 'abugidalaw28.RewriteExamples'. -/
def rewriteExamplesCard : Claim7 := { stood := { row := rewriteExamplesRow, standIns := [], harness := (true, "721576bb9154e3708a1ef319250062c14025de1853f068449e2384d75b490525"), looks := true }, kinds := [], alts := [], laidByText := true, laidKinds := [.data, .data, .data], laidTests := true, laidLooks := .later }
def RewriteExamplesCardSaid : Prop := Claim7.holds Tryz.pinned (.plain (OpenSpec.ofChange rewriteExamplesSpec)) rewriteExamplesCard

/-- THE TIED CARD OF 'abugidalaw28.RewriteSpans'. -/
def rewriteSpansCard : Claim7 := { stood := { row := rewriteSpansRow, standIns := [], harness := (true, "721576bb9154e3708a1ef319250062c14025de1853f068449e2384d75b490525"), looks := true }, kinds := [], alts := [], laidByText := true, laidKinds := [.data, .data, .data], laidTests := true, laidLooks := .later }
def RewriteSpansCardSaid : Prop := Claim7.holds Tryz.pinned (.plain (OpenSpec.ofChange rewriteSpansSpec)) rewriteSpansCard

/-- THE TIED CARD OF 'abugidalaw28.RewriteApplies'. -/
def rewriteAppliesCard : Claim7 := { stood := { row := rewriteAppliesRow, standIns := [], harness := (true, "721576bb9154e3708a1ef319250062c14025de1853f068449e2384d75b490525"), looks := true }, kinds := [], alts := [], laidByText := true, laidKinds := [.data, .data, .data], laidTests := true, laidLooks := .later }
def RewriteAppliesCardSaid : Prop := Claim7.holds Tryz.pinned (.plain (OpenSpec.ofChange rewriteAppliesSpec)) rewriteAppliesCard

/-- THE TIED CARD OF 'abugidalaw28.RewriteYields'. -/
def rewriteYieldsCard : Claim7 := { stood := { row := rewriteYieldsRow, standIns := [], harness := (true, "721576bb9154e3708a1ef319250062c14025de1853f068449e2384d75b490525"), looks := true }, kinds := [], alts := [], laidByText := true, laidKinds := [.data, .data, .data], laidTests := true, laidLooks := .later }
def RewriteYieldsCardSaid : Prop := Claim7.holds Tryz.pinned (.plain (OpenSpec.ofChange rewriteYieldsSpec)) rewriteYieldsCard

/-- THE TIED CARD OF 'abugidalaw28.RewriteKinds'. -/
def rewriteKindsCard : Claim7 := { stood := { row := rewriteKindsRow, standIns := [], harness := (true, "721576bb9154e3708a1ef319250062c14025de1853f068449e2384d75b490525"), looks := true }, kinds := [], alts := [], laidByText := true, laidKinds := [.data, .data, .data], laidTests := true, laidLooks := .later }
def RewriteKindsCardSaid : Prop := Claim7.holds Tryz.pinned (.plain (OpenSpec.ofChange rewriteKindsSpec)) rewriteKindsCard

/-- THE TIED CARD OF 'abugidalaw28.RewriteIdle'. -/
def rewriteIdleCard : Claim7 := { stood := { row := rewriteIdleRow, standIns := [], harness := (true, "721576bb9154e3708a1ef319250062c14025de1853f068449e2384d75b490525"), looks := true }, kinds := [], alts := [], laidByText := true, laidKinds := [.data, .data, .data], laidTests := true, laidLooks := .later }
def RewriteIdleCardSaid : Prop := Claim7.holds Tryz.pinned (.plain (OpenSpec.ofChange rewriteIdleSpec)) rewriteIdleCard

/-- THE TIED CARD OF 'abugidalaw28.RewriteBackwards'. -/
def rewriteBackwardsCard : Claim7 := { stood := { row := rewriteBackwardsRow, standIns := [], harness := (true, "721576bb9154e3708a1ef319250062c14025de1853f068449e2384d75b490525"), looks := true }, kinds := [], alts := [], laidByText := true, laidKinds := [.data, .data, .data], laidTests := true, laidLooks := .later }
def RewriteBackwardsCardSaid : Prop := Claim7.holds Tryz.pinned (.plain (OpenSpec.ofChange rewriteBackwardsSpec)) rewriteBackwardsCard

/-- THE SECOND FORM's CARD OF 'abugidalaw28.RewriteExamples'. -/
def rewriteExamplesUptoCard : Claim7 := { stood := { row := rewriteExamplesUptoRow, standIns := [], harness := (true, "721576bb9154e3708a1ef319250062c14025de1853f068449e2384d75b490525"), looks := true }, kinds := [], alts := [], laidByText := true, laidKinds := [.data, .data, .data], laidTests := true, laidLooks := .later }
def RewriteExamplesUptoCardSaid : Prop := Claim7.holds Tryz.pinned (.plain (OpenSpec.upto rewriteExamplesSpec)) rewriteExamplesUptoCard

/-- THE SECOND FORM's CARD OF 'abugidalaw28.RewriteSpans'. -/
def rewriteSpansUptoCard : Claim7 := { stood := { row := rewriteSpansUptoRow, standIns := [], harness := (true, "721576bb9154e3708a1ef319250062c14025de1853f068449e2384d75b490525"), looks := true }, kinds := [], alts := [], laidByText := true, laidKinds := [.data, .data, .data], laidTests := true, laidLooks := .later }
def RewriteSpansUptoCardSaid : Prop := Claim7.holds Tryz.pinned (.plain (OpenSpec.upto rewriteSpansSpec)) rewriteSpansUptoCard

/-- THE SECOND FORM's CARD OF 'abugidalaw28.RewriteApplies'. -/
def rewriteAppliesUptoCard : Claim7 := { stood := { row := rewriteAppliesUptoRow, standIns := [], harness := (true, "721576bb9154e3708a1ef319250062c14025de1853f068449e2384d75b490525"), looks := true }, kinds := [], alts := [], laidByText := true, laidKinds := [.data, .data, .data], laidTests := true, laidLooks := .later }
def RewriteAppliesUptoCardSaid : Prop := Claim7.holds Tryz.pinned (.plain (OpenSpec.upto rewriteAppliesSpec)) rewriteAppliesUptoCard

/-- THE SECOND FORM's CARD OF 'abugidalaw28.RewriteYields'. -/
def rewriteYieldsUptoCard : Claim7 := { stood := { row := rewriteYieldsUptoRow, standIns := [], harness := (true, "721576bb9154e3708a1ef319250062c14025de1853f068449e2384d75b490525"), looks := true }, kinds := [], alts := [], laidByText := true, laidKinds := [.data, .data, .data], laidTests := true, laidLooks := .later }
def RewriteYieldsUptoCardSaid : Prop := Claim7.holds Tryz.pinned (.plain (OpenSpec.upto rewriteYieldsSpec)) rewriteYieldsUptoCard

/-- THE SECOND FORM's CARD OF 'abugidalaw28.RewriteKinds'. -/
def rewriteKindsUptoCard : Claim7 := { stood := { row := rewriteKindsUptoRow, standIns := [], harness := (true, "721576bb9154e3708a1ef319250062c14025de1853f068449e2384d75b490525"), looks := true }, kinds := [], alts := [], laidByText := true, laidKinds := [.data, .data, .data], laidTests := true, laidLooks := .later }
def RewriteKindsUptoCardSaid : Prop := Claim7.holds Tryz.pinned (.plain (OpenSpec.upto rewriteKindsSpec)) rewriteKindsUptoCard

/-- THE SECOND FORM's CARD OF 'abugidalaw28.RewriteIdle'. -/
def rewriteIdleUptoCard : Claim7 := { stood := { row := rewriteIdleUptoRow, standIns := [], harness := (true, "721576bb9154e3708a1ef319250062c14025de1853f068449e2384d75b490525"), looks := true }, kinds := [], alts := [], laidByText := true, laidKinds := [.data, .data, .data], laidTests := true, laidLooks := .later }
def RewriteIdleUptoCardSaid : Prop := Claim7.holds Tryz.pinned (.plain (OpenSpec.upto rewriteIdleSpec)) rewriteIdleUptoCard

/-- THE SECOND FORM's CARD OF 'abugidalaw28.RewriteBackwards'. -/
def rewriteBackwardsUptoCard : Claim7 := { stood := { row := rewriteBackwardsUptoRow, standIns := [], harness := (true, "721576bb9154e3708a1ef319250062c14025de1853f068449e2384d75b490525"), looks := true }, kinds := [], alts := [], laidByText := true, laidKinds := [.data, .data, .data], laidTests := true, laidLooks := .later }
def RewriteBackwardsUptoCardSaid : Prop := Claim7.holds Tryz.pinned (.plain (OpenSpec.upto rewriteBackwardsSpec)) rewriteBackwardsUptoCard
end Rows
end Go.Proofs.YtomjpelinabmgaaGreatDoor
