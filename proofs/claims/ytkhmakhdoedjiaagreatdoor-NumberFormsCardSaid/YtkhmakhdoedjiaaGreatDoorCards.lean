/-
  DERIVED. GIVEN WITH THE SEED: THE CARDS: each row of YtkhmakhdoedjiaaGreatDoorRows.lean that lists a variable, with what it lists TIED to the program's text (the seventh form; the later family's looks); each row that meets fmt, with fmt's text TOLD by the authors' own Lean function (tested against real Go, not proved from fmt's source: count such statements apart). THE CARD IS WHAT COUNTS. Prove the row's statement (the work); the ties are given (YtkhmakhdoedjiaaGreatDoorTie.lean); close each card by the builder's one call (the guide's Derived/Test/ToyasCard.lean, 'card_holds'). Laid BY PROGRAM, IN A SANDBOX (cutbox-door.mjs). By AI agents, Wed Nov 11 2026. No macro, syntax, notation, axiom, sorry.
-/
import Derived.Test.YtkhmakhdoedjiaaGreatDoorRows
import GoSem.ClaimSeven
namespace Go.Proofs.YtkhmakhdoedjiaaGreatDoor
namespace Rows

/-- THE TIED CARD OF 'lensletlaw01.NumberForms'. -/
def numberFormsCard : Claim7 := { stood := { row := numberFormsRow, standIns := [], harness := (true, "bc19151a8cece63116192ef90b9e2a8773fbecad99deb8d70aa53762367ef8c1"), looks := true }, kinds := [], alts := [], laidByText := true, laidKinds := [.data, .data, .data, .data, .sentinel, .sentinel, .pinned], laidTests := true, laidLooks := .later }
def NumberFormsCardSaid : Prop := Claim7.holds Tryz.pinned (.plain (OpenSpec.ofChange numberFormsSpec)) numberFormsCard

/-- THE SECOND FORM's CARD OF 'lensletlaw01.NumberForms'. -/
def numberFormsUptoCard : Claim7 := { stood := { row := numberFormsUptoRow, standIns := [], harness := (true, "bc19151a8cece63116192ef90b9e2a8773fbecad99deb8d70aa53762367ef8c1"), looks := true }, kinds := [], alts := [], laidByText := true, laidKinds := [.data, .data, .data, .data, .sentinel, .sentinel, .pinned], laidTests := true, laidLooks := .later }
def NumberFormsUptoCardSaid : Prop := Claim7.holds Tryz.pinned (.plain (OpenSpec.upto numberFormsSpec)) numberFormsUptoCard
end Rows
end Go.Proofs.YtkhmakhdoedjiaaGreatDoor
