/-
  DERIVED. GIVEN WITH THE SEED: THE CARDS: each row of YtfohkkaphnfgoabGreatDoorRows.lean that lists a variable, with what it lists TIED to the program's text (the seventh form; the later family's looks); each row that meets fmt, with fmt's text TOLD by the authors' own Lean function (tested against real Go, not proved from fmt's source: count such statements apart). THE CARD IS WHAT COUNTS. Prove the row's statement (the work); the ties are given (YtfohkkaphnfgoabGreatDoorTie.lean); close each card by the builder's one call (the guide's Derived/Test/ToyasCard.lean, 'card_holds'). Laid BY PROGRAM, IN A SANDBOX (cutbox-door.mjs). By AI agents, Wed Nov 11 2026. No macro, syntax, notation, axiom, sorry.
-/
import Derived.Test.YtfohkkaphnfgoabGreatDoorRows
import GoSem.ClaimSeven
namespace Go.Proofs.YtfohkkaphnfgoabGreatDoor
namespace Rows

/-- THE TIED CARD OF 'lensletlaw07.SkyPhases'. -/
def skyPhasesCard : Claim7 := { stood := { row := skyPhasesRow, standIns := [], harness := (true, "b6b1290cd319822e2ed3a7562a82527dcb9a12344396c6bdf3efde5ac0c29bce"), looks := true }, kinds := [], alts := [], laidByText := true, laidKinds := [.data, .data, .data, .data, .sentinel, .sentinel, .pinned], laidTests := true, laidLooks := .later }
def SkyPhasesCardSaid : Prop := Claim7.holds Tryz.pinned (.plain (OpenSpec.ofChange skyPhasesSpec)) skyPhasesCard

/-- THE SECOND FORM's CARD OF 'lensletlaw07.SkyPhases'. -/
def skyPhasesUptoCard : Claim7 := { stood := { row := skyPhasesUptoRow, standIns := [], harness := (true, "b6b1290cd319822e2ed3a7562a82527dcb9a12344396c6bdf3efde5ac0c29bce"), looks := true }, kinds := [], alts := [], laidByText := true, laidKinds := [.data, .data, .data, .data, .sentinel, .sentinel, .pinned], laidTests := true, laidLooks := .later }
def SkyPhasesUptoCardSaid : Prop := Claim7.holds Tryz.pinned (.plain (OpenSpec.upto skyPhasesSpec)) skyPhasesUptoCard
end Rows
end Go.Proofs.YtfohkkaphnfgoabGreatDoor
