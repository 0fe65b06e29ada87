/-
  DERIVED. GIVEN WITH THE SEED: THE CARDS: each row of YtdibafmjplecaaaGreatDoorRows.lean that lists a variable, with what it lists TIED to the program's text (the seventh form; the later family's looks); each row that meets fmt, with fmt's text TOLD by the authors' own Lean function (tested against real Go, not proved from fmt's source: count such statements apart). THE CARD IS WHAT COUNTS. Prove the row's statement (the work); the ties are given (YtdibafmjplecaaaGreatDoorTie.lean); close each card by the builder's one call (the guide's Derived/Test/ToyasCard.lean, 'card_holds'). Laid BY PROGRAM, IN A SANDBOX (cutbox-door.mjs). By AI agents, Wed Nov 11 2026. No macro, syntax, notation, axiom, sorry.
-/
import Derived.Test.YtdibafmjplecaaaGreatDoorRows
import GoSem.ClaimSeven
namespace Go.Proofs.YtdibafmjplecaaaGreatDoor
namespace Rows

/-- THE TIED CARD OF 'lensletlaw01.NumberRounds'. -/
def numberRoundsCard : Claim7 := { stood := { row := numberRoundsRow, standIns := [], harness := (true, "f7a37dfce614934d1ebd3ce09f9d7b430d8eeb33eb1b7b898b8dd744dbe70ae3"), looks := true }, kinds := [], alts := [], laidByText := true, laidKinds := [.data, .data, .data, .data, .sentinel, .sentinel, .pinned], laidTests := true, laidLooks := .later }
def NumberRoundsCardSaid : Prop := Claim7.holds Tryz.pinned (.plain (OpenSpec.ofChange numberRoundsSpec)) numberRoundsCard

/-- THE TIED CARD OF 'lensletlaw01.NumberFloats'. -/
def numberFloatsCard : Claim7 := { stood := { row := numberFloatsRow, standIns := [], harness := (true, "f7a37dfce614934d1ebd3ce09f9d7b430d8eeb33eb1b7b898b8dd744dbe70ae3"), looks := true }, kinds := [], alts := [], laidByText := true, laidKinds := [.data, .data, .data, .data, .sentinel, .sentinel, .pinned], laidTests := true, laidLooks := .later }
def NumberFloatsCardSaid : Prop := Claim7.holds Tryz.pinned (.plain (OpenSpec.ofChange numberFloatsSpec)) numberFloatsCard

/-- THE SECOND FORM's CARD OF 'lensletlaw01.NumberRounds'. -/
def numberRoundsUptoCard : Claim7 := { stood := { row := numberRoundsUptoRow, standIns := [], harness := (true, "f7a37dfce614934d1ebd3ce09f9d7b430d8eeb33eb1b7b898b8dd744dbe70ae3"), looks := true }, kinds := [], alts := [], laidByText := true, laidKinds := [.data, .data, .data, .data, .sentinel, .sentinel, .pinned], laidTests := true, laidLooks := .later }
def NumberRoundsUptoCardSaid : Prop := Claim7.holds Tryz.pinned (.plain (OpenSpec.upto numberRoundsSpec)) numberRoundsUptoCard

/-- THE SECOND FORM's CARD OF 'lensletlaw01.NumberFloats'. -/
def numberFloatsUptoCard : Claim7 := { stood := { row := numberFloatsUptoRow, standIns := [], harness := (true, "f7a37dfce614934d1ebd3ce09f9d7b430d8eeb33eb1b7b898b8dd744dbe70ae3"), looks := true }, kinds := [], alts := [], laidByText := true, laidKinds := [.data, .data, .data, .data, .sentinel, .sentinel, .pinned], laidTests := true, laidLooks := .later }
def NumberFloatsUptoCardSaid : Prop := Claim7.holds Tryz.pinned (.plain (OpenSpec.upto numberFloatsSpec)) numberFloatsUptoCard
end Rows
end Go.Proofs.YtdibafmjplecaaaGreatDoor
