/-
  DERIVED. GIVEN WITH THE SEED: THE CARDS: each row of YtjemkccfpkgopaaGreatDoorRows.lean that lists a variable, with what it lists TIED to the program's text (the seventh form; the later family's looks); each row that meets fmt, with fmt's text TOLD by the authors' own Lean function (tested against real Go, not proved from fmt's source: count such statements apart). THE CARD IS WHAT COUNTS. Prove the row's statement (the work); the ties are given (YtjemkccfpkgopaaGreatDoorTie.lean); close each card by the builder's one call (the guide's Derived/Test/ToyasCard.lean, 'card_holds'). Laid BY PROGRAM, IN A SANDBOX (cutbox-door.mjs). By AI agents, Wed Nov 11 2026. No macro, syntax, notation, axiom, sorry.
-/
import Derived.Test.YtjemkccfpkgopaaGreatDoorRows
import GoSem.ClaimSeven
namespace Go.Proofs.YtjemkccfpkgopaaGreatDoor
namespace Rows

/-- THE TIED CARD OF 'lensletlaw01.NumberMatrices'. -/
def numberMatricesCard : Claim7 := { stood := { row := numberMatricesRow, standIns := [], harness := (true, "7eabc86a169ee9154407ca66f98e7ab66f3a3d1e60ee4437dbd27829d1f3de7b"), looks := true }, kinds := [], alts := [], laidByText := true, laidKinds := [.data, .data, .data, .data, .sentinel, .sentinel, .pinned], laidTests := true, laidLooks := .later }
def NumberMatricesCardSaid : Prop := Claim7.holds Tryz.pinned (.plain (OpenSpec.ofChange numberMatricesSpec)) numberMatricesCard

/-- THE TIED CARD OF 'lensletlaw01.NumberSolutions'. -/
def numberSolutionsCard : Claim7 := { stood := { row := numberSolutionsRow, standIns := [], harness := (true, "7eabc86a169ee9154407ca66f98e7ab66f3a3d1e60ee4437dbd27829d1f3de7b"), looks := true }, kinds := [], alts := [], laidByText := true, laidKinds := [.data, .data, .data, .data, .sentinel, .sentinel, .pinned], laidTests := true, laidLooks := .later }
def NumberSolutionsCardSaid : Prop := Claim7.holds Tryz.pinned (.plain (OpenSpec.ofChange numberSolutionsSpec)) numberSolutionsCard

/-- THE TIED CARD OF 'lensletlaw01.NumberKernels'. -/
def numberKernelsCard : Claim7 := { stood := { row := numberKernelsRow, standIns := [], harness := (true, "7eabc86a169ee9154407ca66f98e7ab66f3a3d1e60ee4437dbd27829d1f3de7b"), looks := true }, kinds := [], alts := [], laidByText := true, laidKinds := [.data, .data, .data, .data, .sentinel, .sentinel, .pinned], laidTests := true, laidLooks := .later }
def NumberKernelsCardSaid : Prop := Claim7.holds Tryz.pinned (.plain (OpenSpec.ofChange numberKernelsSpec)) numberKernelsCard

/-- THE TIED CARD OF 'lensletlaw01.NumberEquations'. -/
def numberEquationsCard : Claim7 := { stood := { row := numberEquationsRow, standIns := [], harness := (true, "7eabc86a169ee9154407ca66f98e7ab66f3a3d1e60ee4437dbd27829d1f3de7b"), looks := true }, kinds := [], alts := [], laidByText := true, laidKinds := [.data, .data, .data, .data, .sentinel, .sentinel, .pinned], laidTests := true, laidLooks := .later }
def NumberEquationsCardSaid : Prop := Claim7.holds Tryz.pinned (.plain (OpenSpec.ofChange numberEquationsSpec)) numberEquationsCard

/-- THE SECOND FORM's CARD OF 'lensletlaw01.NumberMatrices'. -/
def numberMatricesUptoCard : Claim7 := { stood := { row := numberMatricesUptoRow, standIns := [], harness := (true, "7eabc86a169ee9154407ca66f98e7ab66f3a3d1e60ee4437dbd27829d1f3de7b"), looks := true }, kinds := [], alts := [], laidByText := true, laidKinds := [.data, .data, .data, .data, .sentinel, .sentinel, .pinned], laidTests := true, laidLooks := .later }
def NumberMatricesUptoCardSaid : Prop := Claim7.holds Tryz.pinned (.plain (OpenSpec.upto numberMatricesSpec)) numberMatricesUptoCard

/-- THE SECOND FORM's CARD OF 'lensletlaw01.NumberSolutions'. -/
def numberSolutionsUptoCard : Claim7 := { stood := { row := numberSolutionsUptoRow, standIns := [], harness := (true, "7eabc86a169ee9154407ca66f98e7ab66f3a3d1e60ee4437dbd27829d1f3de7b"), looks := true }, kinds := [], alts := [], laidByText := true, laidKinds := [.data, .data, .data, .data, .sentinel, .sentinel, .pinned], laidTests := true, laidLooks := .later }
def NumberSolutionsUptoCardSaid : Prop := Claim7.holds Tryz.pinned (.plain (OpenSpec.upto numberSolutionsSpec)) numberSolutionsUptoCard

/-- THE SECOND FORM's CARD OF 'lensletlaw01.NumberKernels'. -/
def numberKernelsUptoCard : Claim7 := { stood := { row := numberKernelsUptoRow, standIns := [], harness := (true, "7eabc86a169ee9154407ca66f98e7ab66f3a3d1e60ee4437dbd27829d1f3de7b"), looks := true }, kinds := [], alts := [], laidByText := true, laidKinds := [.data, .data, .data, .data, .sentinel, .sentinel, .pinned], laidTests := true, laidLooks := .later }
def NumberKernelsUptoCardSaid : Prop := Claim7.holds Tryz.pinned (.plain (OpenSpec.upto numberKernelsSpec)) numberKernelsUptoCard

/-- THE SECOND FORM's CARD OF 'lensletlaw01.NumberEquations'. -/
def numberEquationsUptoCard : Claim7 := { stood := { row := numberEquationsUptoRow, standIns := [], harness := (true, "7eabc86a169ee9154407ca66f98e7ab66f3a3d1e60ee4437dbd27829d1f3de7b"), looks := true }, kinds := [], alts := [], laidByText := true, laidKinds := [.data, .data, .data, .data, .sentinel, .sentinel, .pinned], laidTests := true, laidLooks := .later }
def NumberEquationsUptoCardSaid : Prop := Claim7.holds Tryz.pinned (.plain (OpenSpec.upto numberEquationsSpec)) numberEquationsUptoCard
end Rows
end Go.Proofs.YtjemkccfpkgopaaGreatDoor
