/-
  DERIVED. GIVEN WITH THE SEED: THE CARDS: each row of YtlklljjppambpaaGreatDoorRows.lean that lists a variable, with what it lists TIED to the program's text (the seventh form; the later family's looks); each row that meets fmt, with fmt's text TOLD by the authors' own Lean function (tested against real Go, not proved from fmt's source: count such statements apart). THE CARD IS WHAT COUNTS. Prove the row's statement (the work); the ties are given (YtlklljjppambpaaGreatDoorTie.lean); close each card by the builder's one call (the guide's Derived/Test/ToyasCard.lean, 'card_holds'). Laid BY PROGRAM, IN A SANDBOX (cutbox-door.mjs). By AI agents, Wed Nov 11 2026. No macro, syntax, notation, axiom, sorry.
-/
import Derived.Test.YtlklljjppambpaaGreatDoorRows
import GoSem.ClaimSeven
namespace Go.Proofs.YtlklljjppambpaaGreatDoor
namespace Rows

/-- THE TIED CARD OF 'abugidalaw40.TranslitBack'. -/
def translitBackCard : Claim7 := { stood := { row := translitBackRow, standIns := [], harness := (true, "936401bd21b42606fc007631ef0a84c2105503060f5ba8ee7ac7cb3d4414a396"), looks := true }, kinds := [], alts := [], laidByText := true, laidKinds := [.data, .data, .data], laidTests := true, laidLooks := .later }
def TranslitBackCardSaid : Prop := Claim7.holds Tryz.pinned (.plain (OpenSpec.ofChange translitBackSpec)) translitBackCard

/-- THE TIED CARD OF 'abugidalaw40.TranslitRewrite'. -/
def translitRewriteCard : Claim7 := { stood := { row := translitRewriteRow, standIns := [], harness := (true, "936401bd21b42606fc007631ef0a84c2105503060f5ba8ee7ac7cb3d4414a396"), looks := true }, kinds := [], alts := [], laidByText := true, laidKinds := [.data, .data, .data], laidTests := true, laidLooks := .later }
def TranslitRewriteCardSaid : Prop := Claim7.holds Tryz.pinned (.plain (OpenSpec.ofChange translitRewriteSpec)) translitRewriteCard

/-- THE TIED CARD OF 'abugidalaw40.TranslitOrder'. -/
def translitOrderCard : Claim7 := { stood := { row := translitOrderRow, standIns := [], harness := (true, "936401bd21b42606fc007631ef0a84c2105503060f5ba8ee7ac7cb3d4414a396"), looks := true }, kinds := [], alts := [], laidByText := true, laidKinds := [.data, .data, .data], laidTests := true, laidLooks := .later }
def TranslitOrderCardSaid : Prop := Claim7.holds Tryz.pinned (.plain (OpenSpec.ofChange translitOrderSpec)) translitOrderCard

/-- THE TIED CARD OF 'abugidalaw40.TranslitLost'. -/
def translitLostCard : Claim7 := { stood := { row := translitLostRow, standIns := [], harness := (true, "936401bd21b42606fc007631ef0a84c2105503060f5ba8ee7ac7cb3d4414a396"), looks := true }, kinds := [], alts := [], laidByText := true, laidKinds := [.data, .data, .data], laidTests := true, laidLooks := .later }
def TranslitLostCardSaid : Prop := Claim7.holds Tryz.pinned (.plain (OpenSpec.ofChange translitLostSpec)) translitLostCard

/-- THE SECOND FORM's CARD OF 'abugidalaw40.TranslitBack'. -/
def translitBackUptoCard : Claim7 := { stood := { row := translitBackUptoRow, standIns := [], harness := (true, "936401bd21b42606fc007631ef0a84c2105503060f5ba8ee7ac7cb3d4414a396"), looks := true }, kinds := [], alts := [], laidByText := true, laidKinds := [.data, .data, .data], laidTests := true, laidLooks := .later }
def TranslitBackUptoCardSaid : Prop := Claim7.holds Tryz.pinned (.plain (OpenSpec.upto translitBackSpec)) translitBackUptoCard

/-- THE SECOND FORM's CARD OF 'abugidalaw40.TranslitRewrite'. -/
def translitRewriteUptoCard : Claim7 := { stood := { row := translitRewriteUptoRow, standIns := [], harness := (true, "936401bd21b42606fc007631ef0a84c2105503060f5ba8ee7ac7cb3d4414a396"), looks := true }, kinds := [], alts := [], laidByText := true, laidKinds := [.data, .data, .data], laidTests := true, laidLooks := .later }
def TranslitRewriteUptoCardSaid : Prop := Claim7.holds Tryz.pinned (.plain (OpenSpec.upto translitRewriteSpec)) translitRewriteUptoCard

/-- THE SECOND FORM's CARD OF 'abugidalaw40.TranslitOrder'. -/
def translitOrderUptoCard : Claim7 := { stood := { row := translitOrderUptoRow, standIns := [], harness := (true, "936401bd21b42606fc007631ef0a84c2105503060f5ba8ee7ac7cb3d4414a396"), looks := true }, kinds := [], alts := [], laidByText := true, laidKinds := [.data, .data, .data], laidTests := true, laidLooks := .later }
def TranslitOrderUptoCardSaid : Prop := Claim7.holds Tryz.pinned (.plain (OpenSpec.upto translitOrderSpec)) translitOrderUptoCard

/-- THE SECOND FORM's CARD OF 'abugidalaw40.TranslitLost'. -/
def translitLostUptoCard : Claim7 := { stood := { row := translitLostUptoRow, standIns := [], harness := (true, "936401bd21b42606fc007631ef0a84c2105503060f5ba8ee7ac7cb3d4414a396"), looks := true }, kinds := [], alts := [], laidByText := true, laidKinds := [.data, .data, .data], laidTests := true, laidLooks := .later }
def TranslitLostUptoCardSaid : Prop := Claim7.holds Tryz.pinned (.plain (OpenSpec.upto translitLostSpec)) translitLostUptoCard
end Rows
end Go.Proofs.YtlklljjppambpaaGreatDoor
