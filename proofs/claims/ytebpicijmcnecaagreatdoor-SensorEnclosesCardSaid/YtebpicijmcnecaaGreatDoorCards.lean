/-
  DERIVED. GIVEN WITH THE SEED: THE CARDS: each row of YtebpicijmcnecaaGreatDoorRows.lean that lists a variable, with what it lists TIED to the program's text (the seventh form; the later family's looks); each row that meets fmt, with fmt's text TOLD by the authors' own Lean function (tested against real Go, not proved from fmt's source: count such statements apart). THE CARD IS WHAT COUNTS. Prove the row's statement (the work); the ties are given (YtebpicijmcnecaaGreatDoorTie.lean); close each card by the builder's one call (the guide's Derived/Test/ToyasCard.lean, 'card_holds'). Laid BY PROGRAM, IN A SANDBOX (cutbox-door.mjs). By AI agents, Wed Nov 11 2026. No macro, syntax, notation, axiom, sorry.
-/
import Derived.Test.YtebpicijmcnecaaGreatDoorRows
import GoSem.ClaimSeven
namespace Go.Proofs.YtebpicijmcnecaaGreatDoor
namespace Rows

/-- THE TIED CARD OF 'lensletlaw03.SensorDoubts'. -/
def sensorDoubtsCard : Claim7 := { stood := { row := sensorDoubtsRow, standIns := [], harness := (true, "dcfbb716cfcfbdf8bccc4ca98d43c5c8b1b15b16e7be9c9b6a677ae48a9922cb"), looks := true }, kinds := [], alts := [], laidByText := true, laidKinds := [.data, .data, .data, .data, .data, .data, .data, .sentinel, .sentinel, .pinned], laidTests := true, laidLooks := .later }
def SensorDoubtsCardSaid : Prop := Claim7.holds Tryz.pinned (.plain (OpenSpec.ofChange sensorDoubtsSpec)) sensorDoubtsCard

/-- THE TIED CARD OF 'lensletlaw03.SensorEncloses'. -/
def sensorEnclosesCard : Claim7 := { stood := { row := sensorEnclosesRow, standIns := [], harness := (true, "dcfbb716cfcfbdf8bccc4ca98d43c5c8b1b15b16e7be9c9b6a677ae48a9922cb"), looks := true }, kinds := [], alts := [], laidByText := true, laidKinds := [.data, .data, .data, .data, .data, .data, .data, .sentinel, .sentinel, .pinned], laidTests := true, laidLooks := .later }
def SensorEnclosesCardSaid : Prop := Claim7.holds Tryz.pinned (.plain (OpenSpec.ofChange sensorEnclosesSpec)) sensorEnclosesCard

/-- THE TIED CARD OF 'lensletlaw03.SensorShifts'. -/
def sensorShiftsCard : Claim7 := { stood := { row := sensorShiftsRow, standIns := [], harness := (true, "dcfbb716cfcfbdf8bccc4ca98d43c5c8b1b15b16e7be9c9b6a677ae48a9922cb"), looks := true }, kinds := [], alts := [], laidByText := true, laidKinds := [.data, .data, .data, .data, .data, .data, .data, .sentinel, .sentinel, .pinned], laidTests := true, laidLooks := .later }
def SensorShiftsCardSaid : Prop := Claim7.holds Tryz.pinned (.plain (OpenSpec.ofChange sensorShiftsSpec)) sensorShiftsCard

/-- THE SECOND FORM's CARD OF 'lensletlaw03.SensorDoubts'. -/
def sensorDoubtsUptoCard : Claim7 := { stood := { row := sensorDoubtsUptoRow, standIns := [], harness := (true, "dcfbb716cfcfbdf8bccc4ca98d43c5c8b1b15b16e7be9c9b6a677ae48a9922cb"), looks := true }, kinds := [], alts := [], laidByText := true, laidKinds := [.data, .data, .data, .data, .data, .data, .data, .sentinel, .sentinel, .pinned], laidTests := true, laidLooks := .later }
def SensorDoubtsUptoCardSaid : Prop := Claim7.holds Tryz.pinned (.plain (OpenSpec.upto sensorDoubtsSpec)) sensorDoubtsUptoCard

/-- THE SECOND FORM's CARD OF 'lensletlaw03.SensorEncloses'. -/
def sensorEnclosesUptoCard : Claim7 := { stood := { row := sensorEnclosesUptoRow, standIns := [], harness := (true, "dcfbb716cfcfbdf8bccc4ca98d43c5c8b1b15b16e7be9c9b6a677ae48a9922cb"), looks := true }, kinds := [], alts := [], laidByText := true, laidKinds := [.data, .data, .data, .data, .data, .data, .data, .sentinel, .sentinel, .pinned], laidTests := true, laidLooks := .later }
def SensorEnclosesUptoCardSaid : Prop := Claim7.holds Tryz.pinned (.plain (OpenSpec.upto sensorEnclosesSpec)) sensorEnclosesUptoCard

/-- THE SECOND FORM's CARD OF 'lensletlaw03.SensorShifts'. -/
def sensorShiftsUptoCard : Claim7 := { stood := { row := sensorShiftsUptoRow, standIns := [], harness := (true, "dcfbb716cfcfbdf8bccc4ca98d43c5c8b1b15b16e7be9c9b6a677ae48a9922cb"), looks := true }, kinds := [], alts := [], laidByText := true, laidKinds := [.data, .data, .data, .data, .data, .data, .data, .sentinel, .sentinel, .pinned], laidTests := true, laidLooks := .later }
def SensorShiftsUptoCardSaid : Prop := Claim7.holds Tryz.pinned (.plain (OpenSpec.upto sensorShiftsSpec)) sensorShiftsUptoCard
end Rows
end Go.Proofs.YtebpicijmcnecaaGreatDoor
