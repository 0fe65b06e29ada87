/-
  DERIVED. GIVEN WITH THE SEED: THE CARDS: each row of YtabhmepaflffeaaGreatDoorRows.lean that lists a variable, with what it lists TIED to the program's text (the seventh form; the later family's looks); each row that meets fmt, with fmt's text TOLD by the authors' own Lean function (tested against real Go, not proved from fmt's source: count such statements apart). THE CARD IS WHAT COUNTS. Prove the row's statement (the work); the ties are given (YtabhmepaflffeaaGreatDoorTie.lean); close each card by the builder's one call (the guide's Derived/Test/ToyasCard.lean, 'card_holds'). Laid BY PROGRAM, IN A SANDBOX (cutbox-door.mjs). By AI agents, Wed Nov 11 2026. No macro, syntax, notation, axiom, sorry.
-/
import Derived.Test.YtabhmepaflffeaaGreatDoorRows
import GoSem.ClaimSeven
namespace Go.Proofs.YtabhmepaflffeaaGreatDoor
namespace Rows

/-- THE TIED CARD OF 'lensletlaw03.SensorFrames'. -/
def sensorFramesCard : Claim7 := { stood := { row := sensorFramesRow, standIns := [], harness := (true, "a46488b786333c05381975285b6cf47df582ad1ddb2a5415beb575488fa1f161"), looks := true }, kinds := [], alts := [], laidByText := true, laidKinds := [.data, .data, .data, .data, .data, .data, .data, .sentinel, .sentinel, .pinned], laidTests := true, laidLooks := .later }
def SensorFramesCardSaid : Prop := Claim7.holds Tryz.pinned (.plain (OpenSpec.ofChange sensorFramesSpec)) sensorFramesCard

/-- THE TIED CARD OF 'lensletlaw03.SensorSpots'. -/
def sensorSpotsCard : Claim7 := { stood := { row := sensorSpotsRow, standIns := [], harness := (true, "a46488b786333c05381975285b6cf47df582ad1ddb2a5415beb575488fa1f161"), looks := true }, kinds := [], alts := [], laidByText := true, laidKinds := [.data, .data, .data, .data, .data, .data, .data, .sentinel, .sentinel, .pinned], laidTests := true, laidLooks := .later }
def SensorSpotsCardSaid : Prop := Claim7.holds Tryz.pinned (.plain (OpenSpec.ofChange sensorSpotsSpec)) sensorSpotsCard

/-- THE TIED CARD OF 'lensletlaw03.SensorReturns'. -/
def sensorReturnsCard : Claim7 := { stood := { row := sensorReturnsRow, standIns := [], harness := (true, "a46488b786333c05381975285b6cf47df582ad1ddb2a5415beb575488fa1f161"), looks := true }, kinds := [], alts := [], laidByText := true, laidKinds := [.data, .data, .data, .data, .data, .data, .data, .sentinel, .sentinel, .pinned], laidTests := true, laidLooks := .later }
def SensorReturnsCardSaid : Prop := Claim7.holds Tryz.pinned (.plain (OpenSpec.ofChange sensorReturnsSpec)) sensorReturnsCard

/-- THE TIED CARD OF 'lensletlaw03.SensorMatches'. -/
def sensorMatchesCard : Claim7 := { stood := { row := sensorMatchesRow, standIns := [], harness := (true, "a46488b786333c05381975285b6cf47df582ad1ddb2a5415beb575488fa1f161"), looks := true }, kinds := [], alts := [], laidByText := true, laidKinds := [.data, .data, .data, .data, .data, .data, .data, .sentinel, .sentinel, .pinned], laidTests := true, laidLooks := .later }
def SensorMatchesCardSaid : Prop := Claim7.holds Tryz.pinned (.plain (OpenSpec.ofChange sensorMatchesSpec)) sensorMatchesCard

/-- THE SECOND FORM's CARD OF 'lensletlaw03.SensorFrames'. -/
def sensorFramesUptoCard : Claim7 := { stood := { row := sensorFramesUptoRow, standIns := [], harness := (true, "a46488b786333c05381975285b6cf47df582ad1ddb2a5415beb575488fa1f161"), looks := true }, kinds := [], alts := [], laidByText := true, laidKinds := [.data, .data, .data, .data, .data, .data, .data, .sentinel, .sentinel, .pinned], laidTests := true, laidLooks := .later }
def SensorFramesUptoCardSaid : Prop := Claim7.holds Tryz.pinned (.plain (OpenSpec.upto sensorFramesSpec)) sensorFramesUptoCard

/-- THE SECOND FORM's CARD OF 'lensletlaw03.SensorSpots'. -/
def sensorSpotsUptoCard : Claim7 := { stood := { row := sensorSpotsUptoRow, standIns := [], harness := (true, "a46488b786333c05381975285b6cf47df582ad1ddb2a5415beb575488fa1f161"), looks := true }, kinds := [], alts := [], laidByText := true, laidKinds := [.data, .data, .data, .data, .data, .data, .data, .sentinel, .sentinel, .pinned], laidTests := true, laidLooks := .later }
def SensorSpotsUptoCardSaid : Prop := Claim7.holds Tryz.pinned (.plain (OpenSpec.upto sensorSpotsSpec)) sensorSpotsUptoCard

/-- THE SECOND FORM's CARD OF 'lensletlaw03.SensorReturns'. -/
def sensorReturnsUptoCard : Claim7 := { stood := { row := sensorReturnsUptoRow, standIns := [], harness := (true, "a46488b786333c05381975285b6cf47df582ad1ddb2a5415beb575488fa1f161"), looks := true }, kinds := [], alts := [], laidByText := true, laidKinds := [.data, .data, .data, .data, .data, .data, .data, .sentinel, .sentinel, .pinned], laidTests := true, laidLooks := .later }
def SensorReturnsUptoCardSaid : Prop := Claim7.holds Tryz.pinned (.plain (OpenSpec.upto sensorReturnsSpec)) sensorReturnsUptoCard

/-- THE SECOND FORM's CARD OF 'lensletlaw03.SensorMatches'. -/
def sensorMatchesUptoCard : Claim7 := { stood := { row := sensorMatchesUptoRow, standIns := [], harness := (true, "a46488b786333c05381975285b6cf47df582ad1ddb2a5415beb575488fa1f161"), looks := true }, kinds := [], alts := [], laidByText := true, laidKinds := [.data, .data, .data, .data, .data, .data, .data, .sentinel, .sentinel, .pinned], laidTests := true, laidLooks := .later }
def SensorMatchesUptoCardSaid : Prop := Claim7.holds Tryz.pinned (.plain (OpenSpec.upto sensorMatchesSpec)) sensorMatchesUptoCard
end Rows
end Go.Proofs.YtabhmepaflffeaaGreatDoor
