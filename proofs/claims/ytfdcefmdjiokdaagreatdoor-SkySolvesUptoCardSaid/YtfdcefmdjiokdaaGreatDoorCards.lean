/-
  DERIVED. GIVEN WITH THE SEED: THE CARDS: each row of YtfdcefmdjiokdaaGreatDoorRows.lean that lists a variable, with what it lists TIED to the program's text (the seventh form; the later family's looks); each row that meets fmt, with fmt's text TOLD by the authors' own Lean function (tested against real Go, not proved from fmt's source: count such statements apart). THE CARD IS WHAT COUNTS. Prove the row's statement (the work); the ties are given (YtfdcefmdjiokdaaGreatDoorTie.lean); close each card by the builder's one call (the guide's Derived/Test/ToyasCard.lean, 'card_holds'). Laid BY PROGRAM, IN A SANDBOX (cutbox-door.mjs). By AI agents, Wed Nov 11 2026. No macro, syntax, notation, axiom, sorry.
-/
import Derived.Test.YtfdcefmdjiokdaaGreatDoorRows
import GoSem.ClaimSeven
namespace Go.Proofs.YtfdcefmdjiokdaaGreatDoor
namespace Rows

/-- THE TIED CARD OF 'lensletlaw07.SkySolves'. -/
def skySolvesCard : Claim7 := { stood := { row := skySolvesRow, standIns := [], harness := (true, "175c2c93fd8a9f91c84688361fe4e8dbe3242372828c42adcf45bbd300fb7c9d"), looks := true }, kinds := [], alts := [], laidByText := true, laidKinds := [.data, .data, .data, .data, .sentinel, .sentinel, .pinned], laidTests := true, laidLooks := .later }
def SkySolvesCardSaid : Prop := Claim7.holds Tryz.pinned (.plain (OpenSpec.ofChange skySolvesSpec)) skySolvesCard

/-- THE TIED CARD OF 'lensletlaw07.SkyValues'. -/
def skyValuesCard : Claim7 := { stood := { row := skyValuesRow, standIns := [], harness := (true, "175c2c93fd8a9f91c84688361fe4e8dbe3242372828c42adcf45bbd300fb7c9d"), looks := true }, kinds := [], alts := [], laidByText := true, laidKinds := [.data, .data, .data, .data, .sentinel, .sentinel, .pinned], laidTests := true, laidLooks := .later }
def SkyValuesCardSaid : Prop := Claim7.holds Tryz.pinned (.plain (OpenSpec.ofChange skyValuesSpec)) skyValuesCard

/-- THE TIED CARD OF 'lensletlaw07.SkyBlends'. -/
def skyBlendsCard : Claim7 := { stood := { row := skyBlendsRow, standIns := [], harness := (true, "175c2c93fd8a9f91c84688361fe4e8dbe3242372828c42adcf45bbd300fb7c9d"), looks := true }, kinds := [], alts := [], laidByText := true, laidKinds := [.data, .data, .data, .data, .sentinel, .sentinel, .pinned], laidTests := true, laidLooks := .later }
def SkyBlendsCardSaid : Prop := Claim7.holds Tryz.pinned (.plain (OpenSpec.ofChange skyBlendsSpec)) skyBlendsCard

/-- THE SECOND FORM's CARD OF 'lensletlaw07.SkySolves'. -/
def skySolvesUptoCard : Claim7 := { stood := { row := skySolvesUptoRow, standIns := [], harness := (true, "175c2c93fd8a9f91c84688361fe4e8dbe3242372828c42adcf45bbd300fb7c9d"), looks := true }, kinds := [], alts := [], laidByText := true, laidKinds := [.data, .data, .data, .data, .sentinel, .sentinel, .pinned], laidTests := true, laidLooks := .later }
def SkySolvesUptoCardSaid : Prop := Claim7.holds Tryz.pinned (.plain (OpenSpec.upto skySolvesSpec)) skySolvesUptoCard

/-- THE SECOND FORM's CARD OF 'lensletlaw07.SkyValues'. -/
def skyValuesUptoCard : Claim7 := { stood := { row := skyValuesUptoRow, standIns := [], harness := (true, "175c2c93fd8a9f91c84688361fe4e8dbe3242372828c42adcf45bbd300fb7c9d"), looks := true }, kinds := [], alts := [], laidByText := true, laidKinds := [.data, .data, .data, .data, .sentinel, .sentinel, .pinned], laidTests := true, laidLooks := .later }
def SkyValuesUptoCardSaid : Prop := Claim7.holds Tryz.pinned (.plain (OpenSpec.upto skyValuesSpec)) skyValuesUptoCard

/-- THE SECOND FORM's CARD OF 'lensletlaw07.SkyBlends'. -/
def skyBlendsUptoCard : Claim7 := { stood := { row := skyBlendsUptoRow, standIns := [], harness := (true, "175c2c93fd8a9f91c84688361fe4e8dbe3242372828c42adcf45bbd300fb7c9d"), looks := true }, kinds := [], alts := [], laidByText := true, laidKinds := [.data, .data, .data, .data, .sentinel, .sentinel, .pinned], laidTests := true, laidLooks := .later }
def SkyBlendsUptoCardSaid : Prop := Claim7.holds Tryz.pinned (.plain (OpenSpec.upto skyBlendsSpec)) skyBlendsUptoCard
end Rows
end Go.Proofs.YtfdcefmdjiokdaaGreatDoor
