/-
  DERIVED. GIVEN WITH THE SEED: THE CARDS: each row of YtpdlhopnhojpjaaGreatDoorRows.lean that lists a variable, with what it lists TIED to the program's text (the seventh form; the later family's looks); each row that meets fmt, with fmt's text TOLD by the authors' own Lean function (tested against real Go, not proved from fmt's source: count such statements apart). THE CARD IS WHAT COUNTS. Prove the row's statement (the work); the ties are given (YtpdlhopnhojpjaaGreatDoorTie.lean); close each card by the builder's one call (the guide's Derived/Test/ToyasCard.lean, 'card_holds'). Laid BY PROGRAM, IN A SANDBOX (cutbox-door.mjs). By AI agents, Wed Nov 11 2026. No macro, syntax, notation, axiom, sorry.
-/
import Derived.Test.YtpdlhopnhojpjaaGreatDoorRows
import GoSem.ClaimSeven
namespace Go.Proofs.YtpdlhopnhojpjaaGreatDoor
namespace Rows

/-- THE TIED CARD OF 'lensletlaw07.SkyTomography'. -/
def skyTomographyCard : Claim7 := { stood := { row := skyTomographyRow, standIns := [], harness := (true, "5d8c9a00129d47e82c593996b53a5869b69db8d3013ecdbd35077e5c1185c869"), looks := true }, kinds := [], alts := [], laidByText := true, laidKinds := [.data, .data, .data, .data, .sentinel, .sentinel, .pinned], laidTests := true, laidLooks := .later }
def SkyTomographyCardSaid : Prop := Claim7.holds Tryz.pinned (.plain (OpenSpec.ofChange skyTomographySpec)) skyTomographyCard

/-- THE TIED CARD OF 'lensletlaw07.SkySolves'. -/
def skySolvesCard : Claim7 := { stood := { row := skySolvesRow, standIns := [], harness := (true, "5d8c9a00129d47e82c593996b53a5869b69db8d3013ecdbd35077e5c1185c869"), looks := true }, kinds := [], alts := [], laidByText := true, laidKinds := [.data, .data, .data, .data, .sentinel, .sentinel, .pinned], laidTests := true, laidLooks := .later }
def SkySolvesCardSaid : Prop := Claim7.holds Tryz.pinned (.plain (OpenSpec.ofChange skySolvesSpec)) skySolvesCard

/-- THE SECOND FORM's CARD OF 'lensletlaw07.SkyTomography'. -/
def skyTomographyUptoCard : Claim7 := { stood := { row := skyTomographyUptoRow, standIns := [], harness := (true, "5d8c9a00129d47e82c593996b53a5869b69db8d3013ecdbd35077e5c1185c869"), looks := true }, kinds := [], alts := [], laidByText := true, laidKinds := [.data, .data, .data, .data, .sentinel, .sentinel, .pinned], laidTests := true, laidLooks := .later }
def SkyTomographyUptoCardSaid : Prop := Claim7.holds Tryz.pinned (.plain (OpenSpec.upto skyTomographySpec)) skyTomographyUptoCard

/-- THE SECOND FORM's CARD OF 'lensletlaw07.SkySolves'. -/
def skySolvesUptoCard : Claim7 := { stood := { row := skySolvesUptoRow, standIns := [], harness := (true, "5d8c9a00129d47e82c593996b53a5869b69db8d3013ecdbd35077e5c1185c869"), looks := true }, kinds := [], alts := [], laidByText := true, laidKinds := [.data, .data, .data, .data, .sentinel, .sentinel, .pinned], laidTests := true, laidLooks := .later }
def SkySolvesUptoCardSaid : Prop := Claim7.holds Tryz.pinned (.plain (OpenSpec.upto skySolvesSpec)) skySolvesUptoCard
end Rows
end Go.Proofs.YtpdlhopnhojpjaaGreatDoor
