/-
  DERIVED. GIVEN WITH THE SEED: THE CARDS: each row of YtmacbdacedfedaaGreatDoorRows.lean that lists a variable, with what it lists TIED to the program's text (the seventh form; the later family's looks); each row that meets fmt, with fmt's text TOLD by the authors' own Lean function (tested against real Go, not proved from fmt's source: count such statements apart). THE CARD IS WHAT COUNTS. Prove the row's statement (the work); the ties are given (YtmacbdacedfedaaGreatDoorTie.lean); close each card by the builder's one call (the guide's Derived/Test/ToyasCard.lean, 'card_holds'). Laid BY PROGRAM, IN A SANDBOX (cutbox-door.mjs). By AI agents, Wed Nov 11 2026. No macro, syntax, notation, axiom, sorry.
-/
import Derived.Test.YtmacbdacedfedaaGreatDoorRows
import GoSem.ClaimSeven
namespace Go.Proofs.YtmacbdacedfedaaGreatDoor
namespace Rows

/-- THE TIED CARD OF 'lensletlaw03.SensorCentroids'. -/
def sensorCentroidsCard : Claim7 := { stood := { row := sensorCentroidsRow, standIns := [], harness := (true, "ce325b4e78b908cba50b664e5b362aaf49dbe22dbd5508f2babfaed5ee79b3d8"), looks := true }, kinds := [], alts := [], laidByText := true, laidKinds := [.data, .data, .data, .data, .data, .data, .data, .sentinel, .sentinel, .pinned], laidTests := true, laidLooks := .later }
def SensorCentroidsCardSaid : Prop := Claim7.holds Tryz.pinned (.plain (OpenSpec.ofChange sensorCentroidsSpec)) sensorCentroidsCard

/-- THE TIED CARD OF 'lensletlaw03.SensorMoves'. -/
def sensorMovesCard : Claim7 := { stood := { row := sensorMovesRow, standIns := [], harness := (true, "ce325b4e78b908cba50b664e5b362aaf49dbe22dbd5508f2babfaed5ee79b3d8"), looks := true }, kinds := [], alts := [], laidByText := true, laidKinds := [.data, .data, .data, .data, .data, .data, .data, .sentinel, .sentinel, .pinned], laidTests := true, laidLooks := .later }
def SensorMovesCardSaid : Prop := Claim7.holds Tryz.pinned (.plain (OpenSpec.ofChange sensorMovesSpec)) sensorMovesCard

/-- THE SECOND FORM's CARD OF 'lensletlaw03.SensorCentroids'. -/
def sensorCentroidsUptoCard : Claim7 := { stood := { row := sensorCentroidsUptoRow, standIns := [], harness := (true, "ce325b4e78b908cba50b664e5b362aaf49dbe22dbd5508f2babfaed5ee79b3d8"), looks := true }, kinds := [], alts := [], laidByText := true, laidKinds := [.data, .data, .data, .data, .data, .data, .data, .sentinel, .sentinel, .pinned], laidTests := true, laidLooks := .later }
def SensorCentroidsUptoCardSaid : Prop := Claim7.holds Tryz.pinned (.plain (OpenSpec.upto sensorCentroidsSpec)) sensorCentroidsUptoCard

/-- THE SECOND FORM's CARD OF 'lensletlaw03.SensorMoves'. -/
def sensorMovesUptoCard : Claim7 := { stood := { row := sensorMovesUptoRow, standIns := [], harness := (true, "ce325b4e78b908cba50b664e5b362aaf49dbe22dbd5508f2babfaed5ee79b3d8"), looks := true }, kinds := [], alts := [], laidByText := true, laidKinds := [.data, .data, .data, .data, .data, .data, .data, .sentinel, .sentinel, .pinned], laidTests := true, laidLooks := .later }
def SensorMovesUptoCardSaid : Prop := Claim7.holds Tryz.pinned (.plain (OpenSpec.upto sensorMovesSpec)) sensorMovesUptoCard
end Rows
end Go.Proofs.YtmacbdacedfedaaGreatDoor
