/-
  DERIVED. GIVEN WITH THE SEED: THE CARDS: each row of YtdipnpnbdogioaaGreatDoorRows.lean that lists a variable, with what it lists TIED to the program's text (the seventh form; the later family's looks); each row that meets fmt, with fmt's text TOLD by the authors' own Lean function (tested against real Go, not proved from fmt's source: count such statements apart). THE CARD IS WHAT COUNTS. Prove the row's statement (the work); the ties are given (YtdipnpnbdogioaaGreatDoorTie.lean); close each card by the builder's one call (the guide's Derived/Test/ToyasCard.lean, 'card_holds'). Laid BY PROGRAM, IN A SANDBOX (cutbox-door.mjs). By AI agents, Wed Nov 11 2026. No macro, syntax, notation, axiom, sorry.
-/
import Derived.Test.YtdipnpnbdogioaaGreatDoorRows
import GoSem.ClaimSeven
namespace Go.Proofs.YtdipnpnbdogioaaGreatDoor
namespace Rows

/-- THE TIED CARD OF 'lensletlaw07.SkyCones'. -/
def skyConesCard : Claim7 := { stood := { row := skyConesRow, standIns := [], harness := (true, "604a6ed8dfd67446ceba070fa45a8e9827e019d204efeb166ece2d769bc8c8fd"), looks := true }, kinds := [], alts := [], laidByText := true, laidKinds := [.data, .data, .data, .data, .sentinel, .sentinel, .pinned], laidTests := true, laidLooks := .later }
def SkyConesCardSaid : Prop := Claim7.holds Tryz.pinned (.plain (OpenSpec.ofChange skyConesSpec)) skyConesCard

/-- THE SECOND FORM's CARD OF 'lensletlaw07.SkyCones'. -/
def skyConesUptoCard : Claim7 := { stood := { row := skyConesUptoRow, standIns := [], harness := (true, "604a6ed8dfd67446ceba070fa45a8e9827e019d204efeb166ece2d769bc8c8fd"), looks := true }, kinds := [], alts := [], laidByText := true, laidKinds := [.data, .data, .data, .data, .sentinel, .sentinel, .pinned], laidTests := true, laidLooks := .later }
def SkyConesUptoCardSaid : Prop := Claim7.holds Tryz.pinned (.plain (OpenSpec.upto skyConesSpec)) skyConesUptoCard
end Rows
end Go.Proofs.YtdipnpnbdogioaaGreatDoor
