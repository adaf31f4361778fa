/-
  DERIVED. GIVEN WITH THE SEED: THE CARDS: each row of YtmplkbipoacmmaaGreatDoorRows.lean that lists a variable, with what it lists TIED to the program's text (the seventh form; the later family's looks); each row that meets fmt, with fmt's text TOLD by the authors' own Lean function (tested against real Go, not proved from fmt's source: count such statements apart). THE CARD IS WHAT COUNTS. Prove the row's statement (the work); the ties are given (YtmplkbipoacmmaaGreatDoorTie.lean); close each card by the builder's one call (the guide's Derived/Test/ToyasCard.lean, 'card_holds'). Laid BY PROGRAM, IN A SANDBOX (cutbox-door.mjs). By AI agents, Wed Nov 11 2026. No macro, syntax, notation, axiom, sorry.
-/
import Derived.Test.YtmplkbipoacmmaaGreatDoorRows
import GoSem.ClaimSeven
namespace Go.Proofs.YtmplkbipoacmmaaGreatDoor
namespace Rows

/-- THE TIED CARD OF 'abugidalaw40.TranslitValid'. -/
def translitValidCard : Claim7 := { stood := { row := translitValidRow, standIns := [], harness := (true, "19252b0cebed989a89d531905b416293b0e7f41b48410c48872ddda5c722cf3b"), looks := true }, kinds := [], alts := [], laidByText := true, laidKinds := [.data, .data, .data], laidTests := true, laidLooks := .later }
def TranslitValidCardSaid : Prop := Claim7.holds Tryz.pinned (.plain (OpenSpec.ofChange translitValidSpec)) translitValidCard

/-- THE TIED CARD OF 'abugidalaw40.TranslitApply'. -/
def translitApplyCard : Claim7 := { stood := { row := translitApplyRow, standIns := [], harness := (true, "19252b0cebed989a89d531905b416293b0e7f41b48410c48872ddda5c722cf3b"), looks := true }, kinds := [], alts := [], laidByText := true, laidKinds := [.data, .data, .data], laidTests := true, laidLooks := .later }
def TranslitApplyCardSaid : Prop := Claim7.holds Tryz.pinned (.plain (OpenSpec.ofChange translitApplySpec)) translitApplyCard

/-- THE TIED CARD OF 'abugidalaw40.TranslitCopies'. -/
def translitCopiesCard : Claim7 := { stood := { row := translitCopiesRow, standIns := [], harness := (true, "19252b0cebed989a89d531905b416293b0e7f41b48410c48872ddda5c722cf3b"), looks := true }, kinds := [], alts := [], laidByText := true, laidKinds := [.data, .data, .data], laidTests := true, laidLooks := .later }
def TranslitCopiesCardSaid : Prop := Claim7.holds Tryz.pinned (.plain (OpenSpec.ofChange translitCopiesSpec)) translitCopiesCard

/-- THE TIED CARD OF 'abugidalaw40.TranslitParts'. -/
def translitPartsCard : Claim7 := { stood := { row := translitPartsRow, standIns := [], harness := (true, "19252b0cebed989a89d531905b416293b0e7f41b48410c48872ddda5c722cf3b"), looks := true }, kinds := [], alts := [], laidByText := true, laidKinds := [.data, .data, .data], laidTests := true, laidLooks := .later }
def TranslitPartsCardSaid : Prop := Claim7.holds Tryz.pinned (.plain (OpenSpec.ofChange translitPartsSpec)) translitPartsCard

/-- THE TIED CARD OF 'abugidalaw40.TranslitKnown'. -/
def translitKnownCard : Claim7 := { stood := { row := translitKnownRow, standIns := [], harness := (true, "19252b0cebed989a89d531905b416293b0e7f41b48410c48872ddda5c722cf3b"), looks := true }, kinds := [], alts := [], laidByText := true, laidKinds := [.data, .data, .data], laidTests := true, laidLooks := .later }
def TranslitKnownCardSaid : Prop := Claim7.holds Tryz.pinned (.plain (OpenSpec.ofChange translitKnownSpec)) translitKnownCard

/-- THE SECOND FORM's CARD OF 'abugidalaw40.TranslitValid'. -/
def translitValidUptoCard : Claim7 := { stood := { row := translitValidUptoRow, standIns := [], harness := (true, "19252b0cebed989a89d531905b416293b0e7f41b48410c48872ddda5c722cf3b"), looks := true }, kinds := [], alts := [], laidByText := true, laidKinds := [.data, .data, .data], laidTests := true, laidLooks := .later }
def TranslitValidUptoCardSaid : Prop := Claim7.holds Tryz.pinned (.plain (OpenSpec.upto translitValidSpec)) translitValidUptoCard

/-- THE SECOND FORM's CARD OF 'abugidalaw40.TranslitApply'. -/
def translitApplyUptoCard : Claim7 := { stood := { row := translitApplyUptoRow, standIns := [], harness := (true, "19252b0cebed989a89d531905b416293b0e7f41b48410c48872ddda5c722cf3b"), looks := true }, kinds := [], alts := [], laidByText := true, laidKinds := [.data, .data, .data], laidTests := true, laidLooks := .later }
def TranslitApplyUptoCardSaid : Prop := Claim7.holds Tryz.pinned (.plain (OpenSpec.upto translitApplySpec)) translitApplyUptoCard

/-- THE SECOND FORM's CARD OF 'abugidalaw40.TranslitCopies'. -/
def translitCopiesUptoCard : Claim7 := { stood := { row := translitCopiesUptoRow, standIns := [], harness := (true, "19252b0cebed989a89d531905b416293b0e7f41b48410c48872ddda5c722cf3b"), looks := true }, kinds := [], alts := [], laidByText := true, laidKinds := [.data, .data, .data], laidTests := true, laidLooks := .later }
def TranslitCopiesUptoCardSaid : Prop := Claim7.holds Tryz.pinned (.plain (OpenSpec.upto translitCopiesSpec)) translitCopiesUptoCard

/-- THE SECOND FORM's CARD OF 'abugidalaw40.TranslitParts'. -/
def translitPartsUptoCard : Claim7 := { stood := { row := translitPartsUptoRow, standIns := [], harness := (true, "19252b0cebed989a89d531905b416293b0e7f41b48410c48872ddda5c722cf3b"), looks := true }, kinds := [], alts := [], laidByText := true, laidKinds := [.data, .data, .data], laidTests := true, laidLooks := .later }
def TranslitPartsUptoCardSaid : Prop := Claim7.holds Tryz.pinned (.plain (OpenSpec.upto translitPartsSpec)) translitPartsUptoCard

/-- THE SECOND FORM's CARD OF 'abugidalaw40.TranslitKnown'. -/
def translitKnownUptoCard : Claim7 := { stood := { row := translitKnownUptoRow, standIns := [], harness := (true, "19252b0cebed989a89d531905b416293b0e7f41b48410c48872ddda5c722cf3b"), looks := true }, kinds := [], alts := [], laidByText := true, laidKinds := [.data, .data, .data], laidTests := true, laidLooks := .later }
def TranslitKnownUptoCardSaid : Prop := Claim7.holds Tryz.pinned (.plain (OpenSpec.upto translitKnownSpec)) translitKnownUptoCard
end Rows
end Go.Proofs.YtmplkbipoacmmaaGreatDoor
