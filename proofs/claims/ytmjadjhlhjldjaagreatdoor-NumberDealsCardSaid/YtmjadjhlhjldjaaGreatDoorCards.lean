/-
  DERIVED. GIVEN WITH THE SEED: THE CARDS: each row of YtmjadjhlhjldjaaGreatDoorRows.lean that lists a variable, with what it lists TIED to the program's text (the seventh form; the later family's looks); each row that meets fmt, with fmt's text TOLD by the authors' own Lean function (tested against real Go, not proved from fmt's source: count such statements apart). THE CARD IS WHAT COUNTS. Prove the row's statement (the work); the ties are given (YtmjadjhlhjldjaaGreatDoorTie.lean); close each card by the builder's one call (the guide's Derived/Test/ToyasCard.lean, 'card_holds'). Laid BY PROGRAM, IN A SANDBOX (cutbox-door.mjs). By AI agents, Wed Nov 11 2026. No macro, syntax, notation, axiom, sorry.
-/
import Derived.Test.YtmjadjhlhjldjaaGreatDoorRows
import GoSem.ClaimSeven
namespace Go.Proofs.YtmjadjhlhjldjaaGreatDoor
namespace Rows

/-- THE TIED CARD OF 'lensletlaw01.NumberDraws'. -/
def numberDrawsCard : Claim7 := { stood := { row := numberDrawsRow, standIns := [], harness := (true, "427647c63c6f123cad4af5676825a037591d9a3b04113cb18feb52dc16a79d17"), looks := true }, kinds := [], alts := [], laidByText := true, laidKinds := [.data, .data, .data, .data, .sentinel, .sentinel, .pinned], laidTests := true, laidLooks := .later }
def NumberDrawsCardSaid : Prop := Claim7.holds Tryz.pinned (.plain (OpenSpec.ofChange numberDrawsSpec)) numberDrawsCard

/-- THE TIED CARD OF 'lensletlaw01.NumberDeals'. -/
def numberDealsCard : Claim7 := { stood := { row := numberDealsRow, standIns := [], harness := (true, "427647c63c6f123cad4af5676825a037591d9a3b04113cb18feb52dc16a79d17"), looks := true }, kinds := [], alts := [], laidByText := true, laidKinds := [.data, .data, .data, .data, .sentinel, .sentinel, .pinned], laidTests := true, laidLooks := .later }
def NumberDealsCardSaid : Prop := Claim7.holds Tryz.pinned (.plain (OpenSpec.ofChange numberDealsSpec)) numberDealsCard

/-- THE SECOND FORM's CARD OF 'lensletlaw01.NumberDraws'. -/
def numberDrawsUptoCard : Claim7 := { stood := { row := numberDrawsUptoRow, standIns := [], harness := (true, "427647c63c6f123cad4af5676825a037591d9a3b04113cb18feb52dc16a79d17"), looks := true }, kinds := [], alts := [], laidByText := true, laidKinds := [.data, .data, .data, .data, .sentinel, .sentinel, .pinned], laidTests := true, laidLooks := .later }
def NumberDrawsUptoCardSaid : Prop := Claim7.holds Tryz.pinned (.plain (OpenSpec.upto numberDrawsSpec)) numberDrawsUptoCard

/-- THE SECOND FORM's CARD OF 'lensletlaw01.NumberDeals'. -/
def numberDealsUptoCard : Claim7 := { stood := { row := numberDealsUptoRow, standIns := [], harness := (true, "427647c63c6f123cad4af5676825a037591d9a3b04113cb18feb52dc16a79d17"), looks := true }, kinds := [], alts := [], laidByText := true, laidKinds := [.data, .data, .data, .data, .sentinel, .sentinel, .pinned], laidTests := true, laidLooks := .later }
def NumberDealsUptoCardSaid : Prop := Claim7.holds Tryz.pinned (.plain (OpenSpec.upto numberDealsSpec)) numberDealsUptoCard
end Rows
end Go.Proofs.YtmjadjhlhjldjaaGreatDoor
