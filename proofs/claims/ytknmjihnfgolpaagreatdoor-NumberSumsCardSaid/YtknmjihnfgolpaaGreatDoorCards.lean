/-
  DERIVED. GIVEN WITH THE SEED: THE CARDS: each row of YtknmjihnfgolpaaGreatDoorRows.lean that lists a variable, with what it lists TIED to the program's text (the seventh form; the later family's looks); each row that meets fmt, with fmt's text TOLD by the authors' own Lean function (tested against real Go, not proved from fmt's source: count such statements apart). THE CARD IS WHAT COUNTS. Prove the row's statement (the work); the ties are given (YtknmjihnfgolpaaGreatDoorTie.lean); close each card by the builder's one call (the guide's Derived/Test/ToyasCard.lean, 'card_holds'). Laid BY PROGRAM, IN A SANDBOX (cutbox-door.mjs). By AI agents, Wed Nov 11 2026. No macro, syntax, notation, axiom, sorry.
-/
import Derived.Test.YtknmjihnfgolpaaGreatDoorRows
import GoSem.ClaimSeven
namespace Go.Proofs.YtknmjihnfgolpaaGreatDoor
namespace Rows

/-- THE TIED CARD OF 'lensletlaw01.NumberSums'. -/
def numberSumsCard : Claim7 := { stood := { row := numberSumsRow, standIns := [], harness := (true, "05782fc3a2cb94addaca0a17e7843007a17ee5fb0a3e74b6ff6e160ca257c7b3"), looks := true }, kinds := [], alts := [], laidByText := true, laidKinds := [.data, .data, .data, .data, .sentinel, .sentinel, .pinned], laidTests := true, laidLooks := .later }
def NumberSumsCardSaid : Prop := Claim7.holds Tryz.pinned (.plain (OpenSpec.ofChange numberSumsSpec)) numberSumsCard

/-- THE SECOND FORM's CARD OF 'lensletlaw01.NumberSums'. -/
def numberSumsUptoCard : Claim7 := { stood := { row := numberSumsUptoRow, standIns := [], harness := (true, "05782fc3a2cb94addaca0a17e7843007a17ee5fb0a3e74b6ff6e160ca257c7b3"), looks := true }, kinds := [], alts := [], laidByText := true, laidKinds := [.data, .data, .data, .data, .sentinel, .sentinel, .pinned], laidTests := true, laidLooks := .later }
def NumberSumsUptoCardSaid : Prop := Claim7.holds Tryz.pinned (.plain (OpenSpec.upto numberSumsSpec)) numberSumsUptoCard
end Rows
end Go.Proofs.YtknmjihnfgolpaaGreatDoor
