/-
  DERIVED. GIVEN WITH THE SEED: THE CARDS: each row of YtfohkkaphnfgoaaGreatDoorRows.lean that lists a variable, with what it lists TIED to the program's text (the seventh form; the later family's looks); each row that meets fmt, with fmt's text TOLD by the authors' own Lean function (tested against real Go, not proved from fmt's source: count such statements apart). THE CARD IS WHAT COUNTS. Prove the row's statement (the work); the ties are given (YtfohkkaphnfgoaaGreatDoorTie.lean); close each card by the builder's one call (the guide's Derived/Test/ToyasCard.lean, 'card_holds'). Laid BY PROGRAM, IN A SANDBOX (cutbox-door.mjs). By AI agents, Wed Nov 11 2026. No macro, syntax, notation, axiom, sorry.
-/
import Derived.Test.YtfohkkaphnfgoaaGreatDoorRows
import GoSem.ClaimSeven
namespace Go.Proofs.YtfohkkaphnfgoaaGreatDoor
namespace Rows

/-- THE TIED CARD OF 'lensletlaw07.SkyMatrices'. -/
def skyMatricesCard : Claim7 := { stood := { row := skyMatricesRow, standIns := [], harness := (true, "5cfb1f7309dbd9bfbed1ea990fc6b604a04174f43151f84e50804f4ed65e5928"), looks := true }, kinds := [], alts := [], laidByText := true, laidKinds := [.data, .data, .data, .data, .sentinel, .sentinel, .pinned], laidTests := true, laidLooks := .later }
def SkyMatricesCardSaid : Prop := Claim7.holds Tryz.pinned (.plain (OpenSpec.ofChange skyMatricesSpec)) skyMatricesCard

/-- THE SECOND FORM's CARD OF 'lensletlaw07.SkyMatrices'. -/
def skyMatricesUptoCard : Claim7 := { stood := { row := skyMatricesUptoRow, standIns := [], harness := (true, "5cfb1f7309dbd9bfbed1ea990fc6b604a04174f43151f84e50804f4ed65e5928"), looks := true }, kinds := [], alts := [], laidByText := true, laidKinds := [.data, .data, .data, .data, .sentinel, .sentinel, .pinned], laidTests := true, laidLooks := .later }
def SkyMatricesUptoCardSaid : Prop := Claim7.holds Tryz.pinned (.plain (OpenSpec.upto skyMatricesSpec)) skyMatricesUptoCard
end Rows
end Go.Proofs.YtfohkkaphnfgoaaGreatDoor
