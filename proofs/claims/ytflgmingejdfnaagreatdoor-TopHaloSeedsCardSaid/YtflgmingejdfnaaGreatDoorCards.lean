/-
  DERIVED. GIVEN WITH THE SEED: THE CARDS: each row of YtflgmingejdfnaaGreatDoorRows.lean that lists a variable, with what it lists TIED to the program's text (the seventh form; the later family's looks); each row that meets fmt, with fmt's text TOLD by the authors' own Lean function (tested against real Go, not proved from fmt's source: count such statements apart). THE CARD IS WHAT COUNTS. Prove the row's statement (the work); the ties are given (YtflgmingejdfnaaGreatDoorTie.lean); close each card by the builder's one call (the guide's Derived/Test/ToyasCard.lean, 'card_holds'). Laid BY PROGRAM, IN A SANDBOX (cutbox-door.mjs). By AI agents, Wed Nov 11 2026. No macro, syntax, notation, axiom, sorry.
-/
import Derived.Test.YtflgmingejdfnaaGreatDoorRows
import GoSem.ClaimSeven
namespace Go.Proofs.YtflgmingejdfnaaGreatDoor
namespace Rows

/-- THE TIED CARD OF 'lensletlaw07.SkyFlows'. -/
def skyFlowsCard : Claim7 := { stood := { row := skyFlowsRow, standIns := [], harness := (true, "361b4df753342c73ca03288b27e26e6c5b83bc34bb9827cc07cf3a0f0a5070e6"), looks := true }, kinds := [], alts := [], laidByText := true, laidKinds := [.data, .data, .data, .data, .sentinel, .sentinel, .pinned], laidTests := true, laidLooks := .later }
def SkyFlowsCardSaid : Prop := Claim7.holds Tryz.pinned (.plain (OpenSpec.ofChange skyFlowsSpec)) skyFlowsCard

/-- THE TIED CARD OF 'lensletlaw07.SkyPhases'. -/
def skyPhasesCard : Claim7 := { stood := { row := skyPhasesRow, standIns := [], harness := (true, "361b4df753342c73ca03288b27e26e6c5b83bc34bb9827cc07cf3a0f0a5070e6"), looks := true }, kinds := [], alts := [], laidByText := true, laidKinds := [.data, .data, .data, .data, .sentinel, .sentinel, .pinned], laidTests := true, laidLooks := .later }
def SkyPhasesCardSaid : Prop := Claim7.holds Tryz.pinned (.plain (OpenSpec.ofChange skyPhasesSpec)) skyPhasesCard

/-- THE TIED CARD OF 'lensletlaw07.SkyStructures'. -/
def skyStructuresCard : Claim7 := { stood := { row := skyStructuresRow, standIns := [], harness := (true, "361b4df753342c73ca03288b27e26e6c5b83bc34bb9827cc07cf3a0f0a5070e6"), looks := true }, kinds := [], alts := [], laidByText := true, laidKinds := [.data, .data, .data, .data, .sentinel, .sentinel, .pinned], laidTests := true, laidLooks := .later }
def SkyStructuresCardSaid : Prop := Claim7.holds Tryz.pinned (.plain (OpenSpec.ofChange skyStructuresSpec)) skyStructuresCard

/-- THE TIED CARD OF 'lenslettop.TopHaloFlows'. -/
def topHaloFlowsCard : Claim7 := { stood := { row := topHaloFlowsRow, standIns := [], harness := (true, "361b4df753342c73ca03288b27e26e6c5b83bc34bb9827cc07cf3a0f0a5070e6"), looks := true }, kinds := [], alts := [], laidByText := true, laidKinds := [.data, .data, .data, .data, .sentinel, .sentinel, .pinned], laidTests := true, laidLooks := .later }
def TopHaloFlowsCardSaid : Prop := Claim7.holds Tryz.pinned (.plain (OpenSpec.ofChange topHaloFlowsSpec)) topHaloFlowsCard

/-- THE TIED CARD OF 'lenslettop.TopHaloSeeds'. -/
def topHaloSeedsCard : Claim7 := { stood := { row := topHaloSeedsRow, standIns := [], harness := (true, "361b4df753342c73ca03288b27e26e6c5b83bc34bb9827cc07cf3a0f0a5070e6"), looks := true }, kinds := [], alts := [], laidByText := true, laidKinds := [.data, .data, .data, .data, .sentinel, .sentinel, .pinned], laidTests := true, laidLooks := .later }
def TopHaloSeedsCardSaid : Prop := Claim7.holds Tryz.pinned (.plain (OpenSpec.ofChange topHaloSeedsSpec)) topHaloSeedsCard

/-- THE SECOND FORM's CARD OF 'lensletlaw07.SkyFlows'. -/
def skyFlowsUptoCard : Claim7 := { stood := { row := skyFlowsUptoRow, standIns := [], harness := (true, "361b4df753342c73ca03288b27e26e6c5b83bc34bb9827cc07cf3a0f0a5070e6"), looks := true }, kinds := [], alts := [], laidByText := true, laidKinds := [.data, .data, .data, .data, .sentinel, .sentinel, .pinned], laidTests := true, laidLooks := .later }
def SkyFlowsUptoCardSaid : Prop := Claim7.holds Tryz.pinned (.plain (OpenSpec.upto skyFlowsSpec)) skyFlowsUptoCard

/-- THE SECOND FORM's CARD OF 'lensletlaw07.SkyPhases'. -/
def skyPhasesUptoCard : Claim7 := { stood := { row := skyPhasesUptoRow, standIns := [], harness := (true, "361b4df753342c73ca03288b27e26e6c5b83bc34bb9827cc07cf3a0f0a5070e6"), looks := true }, kinds := [], alts := [], laidByText := true, laidKinds := [.data, .data, .data, .data, .sentinel, .sentinel, .pinned], laidTests := true, laidLooks := .later }
def SkyPhasesUptoCardSaid : Prop := Claim7.holds Tryz.pinned (.plain (OpenSpec.upto skyPhasesSpec)) skyPhasesUptoCard

/-- THE SECOND FORM's CARD OF 'lensletlaw07.SkyStructures'. -/
def skyStructuresUptoCard : Claim7 := { stood := { row := skyStructuresUptoRow, standIns := [], harness := (true, "361b4df753342c73ca03288b27e26e6c5b83bc34bb9827cc07cf3a0f0a5070e6"), looks := true }, kinds := [], alts := [], laidByText := true, laidKinds := [.data, .data, .data, .data, .sentinel, .sentinel, .pinned], laidTests := true, laidLooks := .later }
def SkyStructuresUptoCardSaid : Prop := Claim7.holds Tryz.pinned (.plain (OpenSpec.upto skyStructuresSpec)) skyStructuresUptoCard

/-- THE SECOND FORM's CARD OF 'lenslettop.TopHaloFlows'. -/
def topHaloFlowsUptoCard : Claim7 := { stood := { row := topHaloFlowsUptoRow, standIns := [], harness := (true, "361b4df753342c73ca03288b27e26e6c5b83bc34bb9827cc07cf3a0f0a5070e6"), looks := true }, kinds := [], alts := [], laidByText := true, laidKinds := [.data, .data, .data, .data, .sentinel, .sentinel, .pinned], laidTests := true, laidLooks := .later }
def TopHaloFlowsUptoCardSaid : Prop := Claim7.holds Tryz.pinned (.plain (OpenSpec.upto topHaloFlowsSpec)) topHaloFlowsUptoCard

/-- THE SECOND FORM's CARD OF 'lenslettop.TopHaloSeeds'. -/
def topHaloSeedsUptoCard : Claim7 := { stood := { row := topHaloSeedsUptoRow, standIns := [], harness := (true, "361b4df753342c73ca03288b27e26e6c5b83bc34bb9827cc07cf3a0f0a5070e6"), looks := true }, kinds := [], alts := [], laidByText := true, laidKinds := [.data, .data, .data, .data, .sentinel, .sentinel, .pinned], laidTests := true, laidLooks := .later }
def TopHaloSeedsUptoCardSaid : Prop := Claim7.holds Tryz.pinned (.plain (OpenSpec.upto topHaloSeedsSpec)) topHaloSeedsUptoCard
end Rows
end Go.Proofs.YtflgmingejdfnaaGreatDoor
