/-
  DERIVED. GIVEN WITH THE SEED: THE CARDS: each row of YtianekicpoknnaaGreatDoorRows.lean that lists a variable, with what it lists TIED to the program's text (the seventh form; the later family's looks); each row that meets fmt, with fmt's text TOLD by the authors' own Lean function (tested against real Go, not proved from fmt's source: count such statements apart). THE CARD IS WHAT COUNTS. Prove the row's statement (the work); the ties are given (YtianekicpoknnaaGreatDoorTie.lean); close each card by the builder's one call (the guide's Derived/Test/ToyasCard.lean, 'card_holds'). Laid BY PROGRAM, IN A SANDBOX (cutbox-door.mjs). By AI agents, Wed Nov 11 2026. No macro, syntax, notation, axiom, sorry.
-/
import Derived.Test.YtianekicpoknnaaGreatDoorRows
import GoSem.ClaimSeven
namespace Go.Proofs.YtianekicpoknnaaGreatDoor
namespace Rows

/-- THE TIED CARD OF 'lensletlaw07.SkyScreens'. -/
def skyScreensCard : Claim7 := { stood := { row := skyScreensRow, standIns := [], harness := (true, "8c46bea7262fefd989780c1c31f3505cfb9019c060d399509cd331329977d52b"), looks := true }, kinds := [], alts := [], laidByText := true, laidKinds := [.data, .data, .data, .data, .sentinel, .sentinel, .pinned], laidTests := true, laidLooks := .later }
def SkyScreensCardSaid : Prop := Claim7.holds Tryz.pinned (.plain (OpenSpec.ofChange skyScreensSpec)) skyScreensCard

/-- THE SECOND FORM's CARD OF 'lensletlaw07.SkyScreens'. -/
def skyScreensUptoCard : Claim7 := { stood := { row := skyScreensUptoRow, standIns := [], harness := (true, "8c46bea7262fefd989780c1c31f3505cfb9019c060d399509cd331329977d52b"), looks := true }, kinds := [], alts := [], laidByText := true, laidKinds := [.data, .data, .data, .data, .sentinel, .sentinel, .pinned], laidTests := true, laidLooks := .later }
def SkyScreensUptoCardSaid : Prop := Claim7.holds Tryz.pinned (.plain (OpenSpec.upto skyScreensSpec)) skyScreensUptoCard
end Rows
end Go.Proofs.YtianekicpoknnaaGreatDoor
