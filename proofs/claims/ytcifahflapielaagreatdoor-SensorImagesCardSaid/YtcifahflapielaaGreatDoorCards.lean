/-
  DERIVED. GIVEN WITH THE SEED: THE CARDS: each row of YtcifahflapielaaGreatDoorRows.lean that lists a variable, with what it lists TIED to the program's text (the seventh form; the later family's looks); each row that meets fmt, with fmt's text TOLD by the authors' own Lean function (tested against real Go, not proved from fmt's source: count such statements apart). THE CARD IS WHAT COUNTS. Prove the row's statement (the work); the ties are given (YtcifahflapielaaGreatDoorTie.lean); close each card by the builder's one call (the guide's Derived/Test/ToyasCard.lean, 'card_holds'). Laid BY PROGRAM, IN A SANDBOX (cutbox-door.mjs). By AI agents, Wed Nov 11 2026. No macro, syntax, notation, axiom, sorry.
-/
import Derived.Test.YtcifahflapielaaGreatDoorRows
import GoSem.ClaimSeven
namespace Go.Proofs.YtcifahflapielaaGreatDoor
namespace Rows

/-- THE TIED CARD OF 'lensletlaw03.SensorImages'. -/
def sensorImagesCard : Claim7 := { stood := { row := sensorImagesRow, standIns := [], harness := (true, "de1705947be42a3cdd9a4c4ef634e8fe08fe5c21d58bd700d58de9126562ca29"), looks := true }, kinds := [], alts := [], laidByText := true, laidKinds := [.data, .data, .data, .data, .data, .data, .data, .sentinel, .sentinel, .pinned], laidTests := true, laidLooks := .later }
def SensorImagesCardSaid : Prop := Claim7.holds Tryz.pinned (.plain (OpenSpec.ofChange sensorImagesSpec)) sensorImagesCard

/-- THE TIED CARD OF 'lensletlaw03.SensorFrames'. -/
def sensorFramesCard : Claim7 := { stood := { row := sensorFramesRow, standIns := [], harness := (true, "de1705947be42a3cdd9a4c4ef634e8fe08fe5c21d58bd700d58de9126562ca29"), looks := true }, kinds := [], alts := [], laidByText := true, laidKinds := [.data, .data, .data, .data, .data, .data, .data, .sentinel, .sentinel, .pinned], laidTests := true, laidLooks := .later }
def SensorFramesCardSaid : Prop := Claim7.holds Tryz.pinned (.plain (OpenSpec.ofChange sensorFramesSpec)) sensorFramesCard

/-- THE TIED CARD OF 'lensletlaw03.SensorPyramids'. -/
def sensorPyramidsCard : Claim7 := { stood := { row := sensorPyramidsRow, standIns := [], harness := (true, "de1705947be42a3cdd9a4c4ef634e8fe08fe5c21d58bd700d58de9126562ca29"), looks := true }, kinds := [], alts := [], laidByText := true, laidKinds := [.data, .data, .data, .data, .data, .data, .data, .sentinel, .sentinel, .pinned], laidTests := true, laidLooks := .later }
def SensorPyramidsCardSaid : Prop := Claim7.holds Tryz.pinned (.plain (OpenSpec.ofChange sensorPyramidsSpec)) sensorPyramidsCard

/-- THE SECOND FORM's CARD OF 'lensletlaw03.SensorImages'. -/
def sensorImagesUptoCard : Claim7 := { stood := { row := sensorImagesUptoRow, standIns := [], harness := (true, "de1705947be42a3cdd9a4c4ef634e8fe08fe5c21d58bd700d58de9126562ca29"), looks := true }, kinds := [], alts := [], laidByText := true, laidKinds := [.data, .data, .data, .data, .data, .data, .data, .sentinel, .sentinel, .pinned], laidTests := true, laidLooks := .later }
def SensorImagesUptoCardSaid : Prop := Claim7.holds Tryz.pinned (.plain (OpenSpec.upto sensorImagesSpec)) sensorImagesUptoCard

/-- THE SECOND FORM's CARD OF 'lensletlaw03.SensorFrames'. -/
def sensorFramesUptoCard : Claim7 := { stood := { row := sensorFramesUptoRow, standIns := [], harness := (true, "de1705947be42a3cdd9a4c4ef634e8fe08fe5c21d58bd700d58de9126562ca29"), looks := true }, kinds := [], alts := [], laidByText := true, laidKinds := [.data, .data, .data, .data, .data, .data, .data, .sentinel, .sentinel, .pinned], laidTests := true, laidLooks := .later }
def SensorFramesUptoCardSaid : Prop := Claim7.holds Tryz.pinned (.plain (OpenSpec.upto sensorFramesSpec)) sensorFramesUptoCard

/-- THE SECOND FORM's CARD OF 'lensletlaw03.SensorPyramids'. -/
def sensorPyramidsUptoCard : Claim7 := { stood := { row := sensorPyramidsUptoRow, standIns := [], harness := (true, "de1705947be42a3cdd9a4c4ef634e8fe08fe5c21d58bd700d58de9126562ca29"), looks := true }, kinds := [], alts := [], laidByText := true, laidKinds := [.data, .data, .data, .data, .data, .data, .data, .sentinel, .sentinel, .pinned], laidTests := true, laidLooks := .later }
def SensorPyramidsUptoCardSaid : Prop := Claim7.holds Tryz.pinned (.plain (OpenSpec.upto sensorPyramidsSpec)) sensorPyramidsUptoCard
end Rows
end Go.Proofs.YtcifahflapielaaGreatDoor
