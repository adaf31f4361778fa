/-
  DERIVED. GIVEN WITH THE SEED: THE CARDS: each row of YtbkmajojolbncaaGreatDoorRows.lean that lists a variable, with what it lists TIED to the program's text (the seventh form; the later family's looks); each row that meets fmt, with fmt's text TOLD by the authors' own Lean function (tested against real Go, not proved from fmt's source: count such statements apart). THE CARD IS WHAT COUNTS. Prove the row's statement (the work); the ties are given (YtbkmajojolbncaaGreatDoorTie.lean); close each card by the builder's one call (the guide's Derived/Test/ToyasCard.lean, 'card_holds'). Laid BY PROGRAM, IN A SANDBOX (cutbox-door.mjs). By AI agents, Wed Nov 11 2026. No macro, syntax, notation, axiom, sorry.
-/
import Derived.Test.YtbkmajojolbncaaGreatDoorRows
import GoSem.ClaimSeven
namespace Go.Proofs.YtbkmajojolbncaaGreatDoor
namespace Rows

/-- THE TIED CARD OF 'abugidalaw25.TwolevelExamples'. -/
def twolevelExamplesCard : Claim7 := { stood := { row := twolevelExamplesRow, standIns := [], harness := (true, "cbe48f1c99b3bbdcfd7c6c7edcac446ad8958a256e47c595df06ea3a07c86bad"), looks := true }, kinds := [], alts := [], laidByText := true, laidKinds := [.data, .data, .data], laidTests := true, laidLooks := .later }
def TwolevelExamplesCardSaid : Prop := Claim7.holds Tryz.pinned (.plain (OpenSpec.ofChange twolevelExamplesSpec)) twolevelExamplesCard

/-- THE TIED CARD OF 'abugidalaw25.TwolevelObeys'. -/
def twolevelObeysCard : Claim7 := { stood := { row := twolevelObeysRow, standIns := [], harness := (true, "cbe48f1c99b3bbdcfd7c6c7edcac446ad8958a256e47c595df06ea3a07c86bad"), looks := true }, kinds := [], alts := [], laidByText := true, laidKinds := [.data, .data, .data], laidTests := true, laidLooks := .later }
def TwolevelObeysCardSaid : Prop := Claim7.holds Tryz.pinned (.plain (OpenSpec.ofChange twolevelObeysSpec)) twolevelObeysCard

/-- THE TIED CARD OF 'abugidalaw25.TwolevelCompiles'. -/
def twolevelCompilesCard : Claim7 := { stood := { row := twolevelCompilesRow, standIns := [], harness := (true, "cbe48f1c99b3bbdcfd7c6c7edcac446ad8958a256e47c595df06ea3a07c86bad"), looks := true }, kinds := [], alts := [], laidByText := true, laidKinds := [.data, .data, .data], laidTests := true, laidLooks := .later }
def TwolevelCompilesCardSaid : Prop := Claim7.holds Tryz.pinned (.plain (OpenSpec.ofChange twolevelCompilesSpec)) twolevelCompilesCard

/-- THE TIED CARD OF 'abugidalaw25.TwolevelRelates'. -/
def twolevelRelatesCard : Claim7 := { stood := { row := twolevelRelatesRow, standIns := [], harness := (true, "cbe48f1c99b3bbdcfd7c6c7edcac446ad8958a256e47c595df06ea3a07c86bad"), looks := true }, kinds := [], alts := [], laidByText := true, laidKinds := [.data, .data, .data], laidTests := true, laidLooks := .later }
def TwolevelRelatesCardSaid : Prop := Claim7.holds Tryz.pinned (.plain (OpenSpec.ofChange twolevelRelatesSpec)) twolevelRelatesCard

/-- THE TIED CARD OF 'abugidalaw25.TwolevelPairs'. -/
def twolevelPairsCard : Claim7 := { stood := { row := twolevelPairsRow, standIns := [], harness := (true, "cbe48f1c99b3bbdcfd7c6c7edcac446ad8958a256e47c595df06ea3a07c86bad"), looks := true }, kinds := [], alts := [], laidByText := true, laidKinds := [.data, .data, .data], laidTests := true, laidLooks := .later }
def TwolevelPairsCardSaid : Prop := Claim7.holds Tryz.pinned (.plain (OpenSpec.ofChange twolevelPairsSpec)) twolevelPairsCard

/-- THE TIED CARD OF 'abugidalaw25.TwolevelBoth'. -/
def twolevelBothCard : Claim7 := { stood := { row := twolevelBothRow, standIns := [], harness := (true, "cbe48f1c99b3bbdcfd7c6c7edcac446ad8958a256e47c595df06ea3a07c86bad"), looks := true }, kinds := [], alts := [], laidByText := true, laidKinds := [.data, .data, .data], laidTests := true, laidLooks := .later }
def TwolevelBothCardSaid : Prop := Claim7.holds Tryz.pinned (.plain (OpenSpec.ofChange twolevelBothSpec)) twolevelBothCard

/-- THE TIED CARD OF 'abugidalaw25.TwolevelMore'. -/
def twolevelMoreCard : Claim7 := { stood := { row := twolevelMoreRow, standIns := [], harness := (true, "cbe48f1c99b3bbdcfd7c6c7edcac446ad8958a256e47c595df06ea3a07c86bad"), looks := true }, kinds := [], alts := [], laidByText := true, laidKinds := [.data, .data, .data], laidTests := true, laidLooks := .later }
def TwolevelMoreCardSaid : Prop := Claim7.holds Tryz.pinned (.plain (OpenSpec.ofChange twolevelMoreSpec)) twolevelMoreCard

/-- THE SECOND FORM's CARD OF 'abugidalaw25.TwolevelExamples'. -/
def twolevelExamplesUptoCard : Claim7 := { stood := { row := twolevelExamplesUptoRow, standIns := [], harness := (true, "cbe48f1c99b3bbdcfd7c6c7edcac446ad8958a256e47c595df06ea3a07c86bad"), looks := true }, kinds := [], alts := [], laidByText := true, laidKinds := [.data, .data, .data], laidTests := true, laidLooks := .later }
def TwolevelExamplesUptoCardSaid : Prop := Claim7.holds Tryz.pinned (.plain (OpenSpec.upto twolevelExamplesSpec)) twolevelExamplesUptoCard

/-- THE SECOND FORM's CARD OF 'abugidalaw25.TwolevelObeys'. -/
def twolevelObeysUptoCard : Claim7 := { stood := { row := twolevelObeysUptoRow, standIns := [], harness := (true, "cbe48f1c99b3bbdcfd7c6c7edcac446ad8958a256e47c595df06ea3a07c86bad"), looks := true }, kinds := [], alts := [], laidByText := true, laidKinds := [.data, .data, .data], laidTests := true, laidLooks := .later }
def TwolevelObeysUptoCardSaid : Prop := Claim7.holds Tryz.pinned (.plain (OpenSpec.upto twolevelObeysSpec)) twolevelObeysUptoCard

/-- THE SECOND FORM's CARD OF 'abugidalaw25.TwolevelCompiles'. -/
def twolevelCompilesUptoCard : Claim7 := { stood := { row := twolevelCompilesUptoRow, standIns := [], harness := (true, "cbe48f1c99b3bbdcfd7c6c7edcac446ad8958a256e47c595df06ea3a07c86bad"), looks := true }, kinds := [], alts := [], laidByText := true, laidKinds := [.data, .data, .data], laidTests := true, laidLooks := .later }
def TwolevelCompilesUptoCardSaid : Prop := Claim7.holds Tryz.pinned (.plain (OpenSpec.upto twolevelCompilesSpec)) twolevelCompilesUptoCard

/-- THE SECOND FORM's CARD OF 'abugidalaw25.TwolevelRelates'. -/
def twolevelRelatesUptoCard : Claim7 := { stood := { row := twolevelRelatesUptoRow, standIns := [], harness := (true, "cbe48f1c99b3bbdcfd7c6c7edcac446ad8958a256e47c595df06ea3a07c86bad"), looks := true }, kinds := [], alts := [], laidByText := true, laidKinds := [.data, .data, .data], laidTests := true, laidLooks := .later }
def TwolevelRelatesUptoCardSaid : Prop := Claim7.holds Tryz.pinned (.plain (OpenSpec.upto twolevelRelatesSpec)) twolevelRelatesUptoCard

/-- THE SECOND FORM's CARD OF 'abugidalaw25.TwolevelPairs'. -/
def twolevelPairsUptoCard : Claim7 := { stood := { row := twolevelPairsUptoRow, standIns := [], harness := (true, "cbe48f1c99b3bbdcfd7c6c7edcac446ad8958a256e47c595df06ea3a07c86bad"), looks := true }, kinds := [], alts := [], laidByText := true, laidKinds := [.data, .data, .data], laidTests := true, laidLooks := .later }
def TwolevelPairsUptoCardSaid : Prop := Claim7.holds Tryz.pinned (.plain (OpenSpec.upto twolevelPairsSpec)) twolevelPairsUptoCard

/-- THE SECOND FORM's CARD OF 'abugidalaw25.TwolevelBoth'. -/
def twolevelBothUptoCard : Claim7 := { stood := { row := twolevelBothUptoRow, standIns := [], harness := (true, "cbe48f1c99b3bbdcfd7c6c7edcac446ad8958a256e47c595df06ea3a07c86bad"), looks := true }, kinds := [], alts := [], laidByText := true, laidKinds := [.data, .data, .data], laidTests := true, laidLooks := .later }
def TwolevelBothUptoCardSaid : Prop := Claim7.holds Tryz.pinned (.plain (OpenSpec.upto twolevelBothSpec)) twolevelBothUptoCard

/-- THE SECOND FORM's CARD OF 'abugidalaw25.TwolevelMore'. -/
def twolevelMoreUptoCard : Claim7 := { stood := { row := twolevelMoreUptoRow, standIns := [], harness := (true, "cbe48f1c99b3bbdcfd7c6c7edcac446ad8958a256e47c595df06ea3a07c86bad"), looks := true }, kinds := [], alts := [], laidByText := true, laidKinds := [.data, .data, .data], laidTests := true, laidLooks := .later }
def TwolevelMoreUptoCardSaid : Prop := Claim7.holds Tryz.pinned (.plain (OpenSpec.upto twolevelMoreSpec)) twolevelMoreUptoCard
end Rows
end Go.Proofs.YtbkmajojolbncaaGreatDoor
