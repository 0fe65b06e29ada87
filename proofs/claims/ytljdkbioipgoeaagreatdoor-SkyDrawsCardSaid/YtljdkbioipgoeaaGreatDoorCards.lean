/-
  DERIVED. GIVEN WITH THE SEED: THE CARDS: each row of YtljdkbioipgoeaaGreatDoorRows.lean that lists a variable, with what it lists TIED to the program's text (the seventh form; the later family's looks); each row that meets fmt, with fmt's text TOLD by the authors' own Lean function (tested against real Go, not proved from fmt's source: count such statements apart). THE CARD IS WHAT COUNTS. Prove the row's statement (the work); the ties are given (YtljdkbioipgoeaaGreatDoorTie.lean); close each card by the builder's one call (the guide's Derived/Test/ToyasCard.lean, 'card_holds'). Laid BY PROGRAM, IN A SANDBOX (cutbox-door.mjs). By AI agents, Wed Nov 11 2026. No macro, syntax, notation, axiom, sorry.
-/
import Derived.Test.YtljdkbioipgoeaaGreatDoorRows
import GoSem.ClaimSeven
namespace Go.Proofs.YtljdkbioipgoeaaGreatDoor
namespace Rows

/-- THE TIED CARD OF 'lensletlaw07.SkyDraws'. -/
def skyDrawsCard : Claim7 := { stood := { row := skyDrawsRow, standIns := [], harness := (true, "3fa79d6d22eddd5764c15158b90849a5e29fc436355eaadb907b73df9f21bb91"), looks := true }, kinds := [], alts := [], laidByText := true, laidKinds := [.data, .data, .data, .data, .sentinel, .sentinel, .pinned], laidTests := true, laidLooks := .later }
def SkyDrawsCardSaid : Prop := Claim7.holds Tryz.pinned (.plain (OpenSpec.ofChange skyDrawsSpec)) skyDrawsCard

/-- THE SECOND FORM's CARD OF 'lensletlaw07.SkyDraws'. -/
def skyDrawsUptoCard : Claim7 := { stood := { row := skyDrawsUptoRow, standIns := [], harness := (true, "3fa79d6d22eddd5764c15158b90849a5e29fc436355eaadb907b73df9f21bb91"), looks := true }, kinds := [], alts := [], laidByText := true, laidKinds := [.data, .data, .data, .data, .sentinel, .sentinel, .pinned], laidTests := true, laidLooks := .later }
def SkyDrawsUptoCardSaid : Prop := Claim7.holds Tryz.pinned (.plain (OpenSpec.upto skyDrawsSpec)) skyDrawsUptoCard
end Rows
end Go.Proofs.YtljdkbioipgoeaaGreatDoor
