/-
  DERIVED. GIVEN WITH THE SEED: THE CARDS: each row of YtpemeboolahfkaaGreatDoorRows.lean that lists a variable, with what it lists TIED to the program's text (the seventh form; the later family's looks); each row that meets fmt, with fmt's text TOLD by the authors' own Lean function (tested against real Go, not proved from fmt's source: count such statements apart). THE CARD IS WHAT COUNTS. Prove the row's statement (the work); the ties are given (YtpemeboolahfkaaGreatDoorTie.lean); close each card by the builder's one call (the guide's Derived/Test/ToyasCard.lean, 'card_holds'). Laid BY PROGRAM, IN A SANDBOX (cutbox-door.mjs). By AI agents, Wed Nov 11 2026. No macro, syntax, notation, axiom, sorry.
-/
import Derived.Test.YtpemeboolahfkaaGreatDoorRows
import GoSem.ClaimSeven
namespace Go.Proofs.YtpemeboolahfkaaGreatDoor
namespace Rows

/-- THE TIED CARD OF 'laws.FnExactReadDrawing'. -/
def fnExactReadDrawingCard : Claim7 := { stood := { row := fnExactReadDrawingRow, standIns := [], harness := (true, "1f5b795f0d8ce918b2d8d5752257d72fdc296fd2c10c809e049702fe48d1c402"), looks := false }, kinds := [], alts := [], laidByText := true, laidKinds := [.data, .data, .data, .data, .pinned], laidTests := true, laidLooks := .later }
def FnExactReadDrawingCardSaid : Prop := Claim7.holds Tryz.pinned (.plain (OpenSpec.ofChange fnExactReadDrawingSpec)) fnExactReadDrawingCard

/-- THE SECOND FORM's CARD OF 'laws.FnExactReadDrawing'. -/
def fnExactReadDrawingUptoCard : Claim7 := { stood := { row := fnExactReadDrawingUptoRow, standIns := [], harness := (true, "1f5b795f0d8ce918b2d8d5752257d72fdc296fd2c10c809e049702fe48d1c402"), looks := false }, kinds := [], alts := [], laidByText := true, laidKinds := [.data, .data, .data, .data, .pinned], laidTests := true, laidLooks := .later }
def FnExactReadDrawingUptoCardSaid : Prop := Claim7.holds Tryz.pinned (.plain (OpenSpec.upto fnExactReadDrawingSpec)) fnExactReadDrawingUptoCard
end Rows
end Go.Proofs.YtpemeboolahfkaaGreatDoor
