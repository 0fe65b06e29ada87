/-
  DERIVED. GIVEN WITH THE SEED: THE CARDS: each row of YtmedhadbdofioaaGreatDoorRows.lean that lists a variable, with what it lists TIED to the program's text (the seventh form; the later family's looks); each row that meets fmt, with fmt's text TOLD by the authors' own Lean function (tested against real Go, not proved from fmt's source: count such statements apart). THE CARD IS WHAT COUNTS. Prove the row's statement (the work); the ties are given (YtmedhadbdofioaaGreatDoorTie.lean); close each card by the builder's one call (the guide's Derived/Test/ToyasCard.lean, 'card_holds'). Laid BY PROGRAM, IN A SANDBOX (cutbox-door.mjs). By AI agents, Wed Nov 11 2026. No macro, syntax, notation, axiom, sorry.
-/
import Derived.Test.YtmedhadbdofioaaGreatDoorRows
import GoSem.ClaimSeven
namespace Go.Proofs.YtmedhadbdofioaaGreatDoor
namespace Rows

/-- THE TIED CARD OF 'lensletlaw07.SkyPositions'. -/
def skyPositionsCard : Claim7 := { stood := { row := skyPositionsRow, standIns := [], harness := (true, "68bc111aed69ecc24458929b39626422e8f147f834f35e4ab7e9ac89c69f71ac"), looks := true }, kinds := [], alts := [], laidByText := true, laidKinds := [.data, .data, .data, .data, .sentinel, .sentinel, .pinned], laidTests := true, laidLooks := .later }
def SkyPositionsCardSaid : Prop := Claim7.holds Tryz.pinned (.plain (OpenSpec.ofChange skyPositionsSpec)) skyPositionsCard

/-- THE SECOND FORM's CARD OF 'lensletlaw07.SkyPositions'. -/
def skyPositionsUptoCard : Claim7 := { stood := { row := skyPositionsUptoRow, standIns := [], harness := (true, "68bc111aed69ecc24458929b39626422e8f147f834f35e4ab7e9ac89c69f71ac"), looks := true }, kinds := [], alts := [], laidByText := true, laidKinds := [.data, .data, .data, .data, .sentinel, .sentinel, .pinned], laidTests := true, laidLooks := .later }
def SkyPositionsUptoCardSaid : Prop := Claim7.holds Tryz.pinned (.plain (OpenSpec.upto skyPositionsSpec)) skyPositionsUptoCard
end Rows
end Go.Proofs.YtmedhadbdofioaaGreatDoor
