/-
  DERIVED. GIVEN WITH THE SEED: THE CARDS: each row of YtnilidoboioodaaGreatDoorRows.lean that lists a variable, with what it lists TIED to the program's text (the seventh form; the later family's looks); each row that meets fmt, with fmt's text TOLD by the authors' own Lean function (tested against real Go, not proved from fmt's source: count such statements apart). THE CARD IS WHAT COUNTS. Prove the row's statement (the work); the ties are given (YtnilidoboioodaaGreatDoorTie.lean); close each card by the builder's one call (the guide's Derived/Test/ToyasCard.lean, 'card_holds'). Laid BY PROGRAM, IN A SANDBOX (cutbox-door.mjs). By AI agents, Wed Nov 11 2026. No macro, syntax, notation, axiom, sorry.
-/
import Derived.Test.YtnilidoboioodaaGreatDoorRows
import GoSem.ClaimSeven
namespace Go.Proofs.YtnilidoboioodaaGreatDoor
namespace Rows

/-- THE TIED CARD OF 'lensletlaw03.SensorCentroids'. -/
def sensorCentroidsCard : Claim7 := { stood := { row := sensorCentroidsRow, standIns := [], harness := (true, "928b614e12bcda1009a35689c527823db0dd5a00166d3053da0230cf82e180c9"), looks := true }, kinds := [], alts := [], laidByText := true, laidKinds := [.data, .data, .data, .data, .data, .data, .data, .sentinel, .sentinel, .pinned], laidTests := true, laidLooks := .later }
def SensorCentroidsCardSaid : Prop := Claim7.holds Tryz.pinned (.plain (OpenSpec.ofChange sensorCentroidsSpec)) sensorCentroidsCard

/-- THE TIED CARD OF 'lensletlaw03.SensorShifts'. -/
def sensorShiftsCard : Claim7 := { stood := { row := sensorShiftsRow, standIns := [], harness := (true, "928b614e12bcda1009a35689c527823db0dd5a00166d3053da0230cf82e180c9"), looks := true }, kinds := [], alts := [], laidByText := true, laidKinds := [.data, .data, .data, .data, .data, .data, .data, .sentinel, .sentinel, .pinned], laidTests := true, laidLooks := .later }
def SensorShiftsCardSaid : Prop := Claim7.holds Tryz.pinned (.plain (OpenSpec.ofChange sensorShiftsSpec)) sensorShiftsCard

/-- THE TIED CARD OF 'lensletlaw03.SensorDoubts'. -/
def sensorDoubtsCard : Claim7 := { stood := { row := sensorDoubtsRow, standIns := [], harness := (true, "928b614e12bcda1009a35689c527823db0dd5a00166d3053da0230cf82e180c9"), looks := true }, kinds := [], alts := [], laidByText := true, laidKinds := [.data, .data, .data, .data, .data, .data, .data, .sentinel, .sentinel, .pinned], laidTests := true, laidLooks := .later }
def SensorDoubtsCardSaid : Prop := Claim7.holds Tryz.pinned (.plain (OpenSpec.ofChange sensorDoubtsSpec)) sensorDoubtsCard

/-- THE TIED CARD OF 'lensletlaw03.SensorSlopes'. -/
def sensorSlopesCard : Claim7 := { stood := { row := sensorSlopesRow, standIns := [], harness := (true, "928b614e12bcda1009a35689c527823db0dd5a00166d3053da0230cf82e180c9"), looks := true }, kinds := [], alts := [], laidByText := true, laidKinds := [.data, .data, .data, .data, .data, .data, .data, .sentinel, .sentinel, .pinned], laidTests := true, laidLooks := .later }
def SensorSlopesCardSaid : Prop := Claim7.holds Tryz.pinned (.plain (OpenSpec.ofChange sensorSlopesSpec)) sensorSlopesCard

/-- THE TIED CARD OF 'lensletlaw03.SensorImages'. -/
def sensorImagesCard : Claim7 := { stood := { row := sensorImagesRow, standIns := [], harness := (true, "928b614e12bcda1009a35689c527823db0dd5a00166d3053da0230cf82e180c9"), looks := true }, kinds := [], alts := [], laidByText := true, laidKinds := [.data, .data, .data, .data, .data, .data, .data, .sentinel, .sentinel, .pinned], laidTests := true, laidLooks := .later }
def SensorImagesCardSaid : Prop := Claim7.holds Tryz.pinned (.plain (OpenSpec.ofChange sensorImagesSpec)) sensorImagesCard

/-- THE SECOND FORM's CARD OF 'lensletlaw03.SensorCentroids'. -/
def sensorCentroidsUptoCard : Claim7 := { stood := { row := sensorCentroidsUptoRow, standIns := [], harness := (true, "928b614e12bcda1009a35689c527823db0dd5a00166d3053da0230cf82e180c9"), looks := true }, kinds := [], alts := [], laidByText := true, laidKinds := [.data, .data, .data, .data, .data, .data, .data, .sentinel, .sentinel, .pinned], laidTests := true, laidLooks := .later }
def SensorCentroidsUptoCardSaid : Prop := Claim7.holds Tryz.pinned (.plain (OpenSpec.upto sensorCentroidsSpec)) sensorCentroidsUptoCard

/-- THE SECOND FORM's CARD OF 'lensletlaw03.SensorShifts'. -/
def sensorShiftsUptoCard : Claim7 := { stood := { row := sensorShiftsUptoRow, standIns := [], harness := (true, "928b614e12bcda1009a35689c527823db0dd5a00166d3053da0230cf82e180c9"), looks := true }, kinds := [], alts := [], laidByText := true, laidKinds := [.data, .data, .data, .data, .data, .data, .data, .sentinel, .sentinel, .pinned], laidTests := true, laidLooks := .later }
def SensorShiftsUptoCardSaid : Prop := Claim7.holds Tryz.pinned (.plain (OpenSpec.upto sensorShiftsSpec)) sensorShiftsUptoCard

/-- THE SECOND FORM's CARD OF 'lensletlaw03.SensorDoubts'. -/
def sensorDoubtsUptoCard : Claim7 := { stood := { row := sensorDoubtsUptoRow, standIns := [], harness := (true, "928b614e12bcda1009a35689c527823db0dd5a00166d3053da0230cf82e180c9"), looks := true }, kinds := [], alts := [], laidByText := true, laidKinds := [.data, .data, .data, .data, .data, .data, .data, .sentinel, .sentinel, .pinned], laidTests := true, laidLooks := .later }
def SensorDoubtsUptoCardSaid : Prop := Claim7.holds Tryz.pinned (.plain (OpenSpec.upto sensorDoubtsSpec)) sensorDoubtsUptoCard

/-- THE SECOND FORM's CARD OF 'lensletlaw03.SensorSlopes'. -/
def sensorSlopesUptoCard : Claim7 := { stood := { row := sensorSlopesUptoRow, standIns := [], harness := (true, "928b614e12bcda1009a35689c527823db0dd5a00166d3053da0230cf82e180c9"), looks := true }, kinds := [], alts := [], laidByText := true, laidKinds := [.data, .data, .data, .data, .data, .data, .data, .sentinel, .sentinel, .pinned], laidTests := true, laidLooks := .later }
def SensorSlopesUptoCardSaid : Prop := Claim7.holds Tryz.pinned (.plain (OpenSpec.upto sensorSlopesSpec)) sensorSlopesUptoCard

/-- THE SECOND FORM's CARD OF 'lensletlaw03.SensorImages'. -/
def sensorImagesUptoCard : Claim7 := { stood := { row := sensorImagesUptoRow, standIns := [], harness := (true, "928b614e12bcda1009a35689c527823db0dd5a00166d3053da0230cf82e180c9"), looks := true }, kinds := [], alts := [], laidByText := true, laidKinds := [.data, .data, .data, .data, .data, .data, .data, .sentinel, .sentinel, .pinned], laidTests := true, laidLooks := .later }
def SensorImagesUptoCardSaid : Prop := Claim7.holds Tryz.pinned (.plain (OpenSpec.upto sensorImagesSpec)) sensorImagesUptoCard
end Rows
end Go.Proofs.YtnilidoboioodaaGreatDoor
