/-
  DERIVED. GIVEN WITH THE SEED: THE CARDS: each row of YteioemjpepbdgaaGreatDoorRows.lean that lists a variable, with what it lists TIED to the program's text (the seventh form; the later family's looks); each row that meets fmt, with fmt's text TOLD by the authors' own Lean function (tested against real Go, not proved from fmt's source: count such statements apart). THE CARD IS WHAT COUNTS. Prove the row's statement (the work); the ties are given (YteioemjpepbdgaaGreatDoorTie.lean); close each card by the builder's one call (the guide's Derived/Test/ToyasCard.lean, 'card_holds'). Laid BY PROGRAM, IN A SANDBOX (cutbox-door.mjs). By AI agents, Wed Nov 11 2026. No macro, syntax, notation, axiom, sorry.
-/
import Derived.Test.YteioemjpepbdgaaGreatDoorRows
import GoSem.ClaimSeven
namespace Go.Proofs.YteioemjpepbdgaaGreatDoor
namespace Rows

/-- THE TIED CARD OF 'lensletlaw07.SkyStatistics'. -/
def skyStatisticsCard : Claim7 := { stood := { row := skyStatisticsRow, standIns := [], harness := (true, "a5cb471765aa84f9b291c9162c6ea0746a4473b51be2245f4399e6e5ca02f34e"), looks := true }, kinds := [], alts := [], laidByText := true, laidKinds := [.data, .data, .data, .data, .sentinel, .sentinel, .pinned], laidTests := true, laidLooks := .later }
def SkyStatisticsCardSaid : Prop := Claim7.holds Tryz.pinned (.plain (OpenSpec.ofChange skyStatisticsSpec)) skyStatisticsCard

/-- THE SECOND FORM's CARD OF 'lensletlaw07.SkyStatistics'. -/
def skyStatisticsUptoCard : Claim7 := { stood := { row := skyStatisticsUptoRow, standIns := [], harness := (true, "a5cb471765aa84f9b291c9162c6ea0746a4473b51be2245f4399e6e5ca02f34e"), looks := true }, kinds := [], alts := [], laidByText := true, laidKinds := [.data, .data, .data, .data, .sentinel, .sentinel, .pinned], laidTests := true, laidLooks := .later }
def SkyStatisticsUptoCardSaid : Prop := Claim7.holds Tryz.pinned (.plain (OpenSpec.upto skyStatisticsSpec)) skyStatisticsUptoCard
end Rows
end Go.Proofs.YteioemjpepbdgaaGreatDoor
