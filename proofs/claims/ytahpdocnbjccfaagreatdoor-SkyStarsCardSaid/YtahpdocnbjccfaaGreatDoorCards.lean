/-
  DERIVED. GIVEN WITH THE SEED: THE CARDS: each row of YtahpdocnbjccfaaGreatDoorRows.lean that lists a variable, with what it lists TIED to the program's text (the seventh form; the later family's looks); each row that meets fmt, with fmt's text TOLD by the authors' own Lean function (tested against real Go, not proved from fmt's source: count such statements apart). THE CARD IS WHAT COUNTS. Prove the row's statement (the work); the ties are given (YtahpdocnbjccfaaGreatDoorTie.lean); close each card by the builder's one call (the guide's Derived/Test/ToyasCard.lean, 'card_holds'). Laid BY PROGRAM, IN A SANDBOX (cutbox-door.mjs). By AI agents, Wed Nov 11 2026. No macro, syntax, notation, axiom, sorry.
-/
import Derived.Test.YtahpdocnbjccfaaGreatDoorRows
import GoSem.ClaimSeven
namespace Go.Proofs.YtahpdocnbjccfaaGreatDoor
namespace Rows

/-- THE TIED CARD OF 'lensletlaw07.SkyStars'. -/
def skyStarsCard : Claim7 := { stood := { row := skyStarsRow, standIns := [], harness := (true, "4c79762f731a7779f89e67c686a81f2271051ef786c4f8c4fd7e6cf6a3e51bad"), looks := true }, kinds := [], alts := [], laidByText := true, laidKinds := [.data, .data, .data, .data, .sentinel, .sentinel, .pinned], laidTests := true, laidLooks := .later }
def SkyStarsCardSaid : Prop := Claim7.holds Tryz.pinned (.plain (OpenSpec.ofChange skyStarsSpec)) skyStarsCard

/-- THE SECOND FORM's CARD OF 'lensletlaw07.SkyStars'. -/
def skyStarsUptoCard : Claim7 := { stood := { row := skyStarsUptoRow, standIns := [], harness := (true, "4c79762f731a7779f89e67c686a81f2271051ef786c4f8c4fd7e6cf6a3e51bad"), looks := true }, kinds := [], alts := [], laidByText := true, laidKinds := [.data, .data, .data, .data, .sentinel, .sentinel, .pinned], laidTests := true, laidLooks := .later }
def SkyStarsUptoCardSaid : Prop := Claim7.holds Tryz.pinned (.plain (OpenSpec.upto skyStarsSpec)) skyStarsUptoCard
end Rows
end Go.Proofs.YtahpdocnbjccfaaGreatDoor
