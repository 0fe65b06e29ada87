/-
  DERIVED. GIVEN WITH THE SEED: THE CARDS: each row of YtlkgmaenobiooaaGreatDoorRows.lean that lists a variable, with what it lists TIED to the program's text (the seventh form; the later family's looks); each row that meets fmt, with fmt's text TOLD by the authors' own Lean function (tested against real Go, not proved from fmt's source: count such statements apart). THE CARD IS WHAT COUNTS. Prove the row's statement (the work); the ties are given (YtlkgmaenobiooaaGreatDoorTie.lean); close each card by the builder's one call (the guide's Derived/Test/ToyasCard.lean, 'card_holds'). Laid BY PROGRAM, IN A SANDBOX (cutbox-door.mjs). By AI agents, Wed Nov 11 2026. No macro, syntax, notation, axiom, sorry.
-/
import Derived.Test.YtlkgmaenobiooaaGreatDoorRows
import GoSem.ClaimSeven
namespace Go.Proofs.YtlkgmaenobiooaaGreatDoor
namespace Rows

/-- THE TIED CARD OF 'lensletlaw01.NumberBoxes'. -/
def numberBoxesCard : Claim7 := { stood := { row := numberBoxesRow, standIns := [], harness := (true, "cce2ddc1dc34cb4b448f6e1c010a454e0946281938151e431dbeeb2069bf9510"), looks := true }, kinds := [], alts := [], laidByText := true, laidKinds := [.data, .data, .data, .data, .sentinel, .sentinel, .pinned], laidTests := true, laidLooks := .later }
def NumberBoxesCardSaid : Prop := Claim7.holds Tryz.pinned (.plain (OpenSpec.ofChange numberBoxesSpec)) numberBoxesCard

/-- THE TIED CARD OF 'lensletlaw01.NumberEncloses'. -/
def numberEnclosesCard : Claim7 := { stood := { row := numberEnclosesRow, standIns := [], harness := (true, "cce2ddc1dc34cb4b448f6e1c010a454e0946281938151e431dbeeb2069bf9510"), looks := true }, kinds := [], alts := [], laidByText := true, laidKinds := [.data, .data, .data, .data, .sentinel, .sentinel, .pinned], laidTests := true, laidLooks := .later }
def NumberEnclosesCardSaid : Prop := Claim7.holds Tryz.pinned (.plain (OpenSpec.ofChange numberEnclosesSpec)) numberEnclosesCard

/-- THE TIED CARD OF 'lensletlaw01.NumberMembers'. -/
def numberMembersCard : Claim7 := { stood := { row := numberMembersRow, standIns := [], harness := (true, "cce2ddc1dc34cb4b448f6e1c010a454e0946281938151e431dbeeb2069bf9510"), looks := true }, kinds := [], alts := [], laidByText := true, laidKinds := [.data, .data, .data, .data, .sentinel, .sentinel, .pinned], laidTests := true, laidLooks := .later }
def NumberMembersCardSaid : Prop := Claim7.holds Tryz.pinned (.plain (OpenSpec.ofChange numberMembersSpec)) numberMembersCard

/-- THE TIED CARD OF 'lensletlaw01.NumberSpans'. -/
def numberSpansCard : Claim7 := { stood := { row := numberSpansRow, standIns := [], harness := (true, "cce2ddc1dc34cb4b448f6e1c010a454e0946281938151e431dbeeb2069bf9510"), looks := true }, kinds := [], alts := [], laidByText := true, laidKinds := [.data, .data, .data, .data, .sentinel, .sentinel, .pinned], laidTests := true, laidLooks := .later }
def NumberSpansCardSaid : Prop := Claim7.holds Tryz.pinned (.plain (OpenSpec.ofChange numberSpansSpec)) numberSpansCard

/-- THE TIED CARD OF 'lensletlaw01.NumberSquares'. -/
def numberSquaresCard : Claim7 := { stood := { row := numberSquaresRow, standIns := [], harness := (true, "cce2ddc1dc34cb4b448f6e1c010a454e0946281938151e431dbeeb2069bf9510"), looks := true }, kinds := [], alts := [], laidByText := true, laidKinds := [.data, .data, .data, .data, .sentinel, .sentinel, .pinned], laidTests := true, laidLooks := .later }
def NumberSquaresCardSaid : Prop := Claim7.holds Tryz.pinned (.plain (OpenSpec.ofChange numberSquaresSpec)) numberSquaresCard

/-- THE SECOND FORM's CARD OF 'lensletlaw01.NumberBoxes'. -/
def numberBoxesUptoCard : Claim7 := { stood := { row := numberBoxesUptoRow, standIns := [], harness := (true, "cce2ddc1dc34cb4b448f6e1c010a454e0946281938151e431dbeeb2069bf9510"), looks := true }, kinds := [], alts := [], laidByText := true, laidKinds := [.data, .data, .data, .data, .sentinel, .sentinel, .pinned], laidTests := true, laidLooks := .later }
def NumberBoxesUptoCardSaid : Prop := Claim7.holds Tryz.pinned (.plain (OpenSpec.upto numberBoxesSpec)) numberBoxesUptoCard

/-- THE SECOND FORM's CARD OF 'lensletlaw01.NumberEncloses'. -/
def numberEnclosesUptoCard : Claim7 := { stood := { row := numberEnclosesUptoRow, standIns := [], harness := (true, "cce2ddc1dc34cb4b448f6e1c010a454e0946281938151e431dbeeb2069bf9510"), looks := true }, kinds := [], alts := [], laidByText := true, laidKinds := [.data, .data, .data, .data, .sentinel, .sentinel, .pinned], laidTests := true, laidLooks := .later }
def NumberEnclosesUptoCardSaid : Prop := Claim7.holds Tryz.pinned (.plain (OpenSpec.upto numberEnclosesSpec)) numberEnclosesUptoCard

/-- THE SECOND FORM's CARD OF 'lensletlaw01.NumberMembers'. -/
def numberMembersUptoCard : Claim7 := { stood := { row := numberMembersUptoRow, standIns := [], harness := (true, "cce2ddc1dc34cb4b448f6e1c010a454e0946281938151e431dbeeb2069bf9510"), looks := true }, kinds := [], alts := [], laidByText := true, laidKinds := [.data, .data, .data, .data, .sentinel, .sentinel, .pinned], laidTests := true, laidLooks := .later }
def NumberMembersUptoCardSaid : Prop := Claim7.holds Tryz.pinned (.plain (OpenSpec.upto numberMembersSpec)) numberMembersUptoCard

/-- THE SECOND FORM's CARD OF 'lensletlaw01.NumberSpans'. -/
def numberSpansUptoCard : Claim7 := { stood := { row := numberSpansUptoRow, standIns := [], harness := (true, "cce2ddc1dc34cb4b448f6e1c010a454e0946281938151e431dbeeb2069bf9510"), looks := true }, kinds := [], alts := [], laidByText := true, laidKinds := [.data, .data, .data, .data, .sentinel, .sentinel, .pinned], laidTests := true, laidLooks := .later }
def NumberSpansUptoCardSaid : Prop := Claim7.holds Tryz.pinned (.plain (OpenSpec.upto numberSpansSpec)) numberSpansUptoCard

/-- THE SECOND FORM's CARD OF 'lensletlaw01.NumberSquares'. -/
def numberSquaresUptoCard : Claim7 := { stood := { row := numberSquaresUptoRow, standIns := [], harness := (true, "cce2ddc1dc34cb4b448f6e1c010a454e0946281938151e431dbeeb2069bf9510"), looks := true }, kinds := [], alts := [], laidByText := true, laidKinds := [.data, .data, .data, .data, .sentinel, .sentinel, .pinned], laidTests := true, laidLooks := .later }
def NumberSquaresUptoCardSaid : Prop := Claim7.holds Tryz.pinned (.plain (OpenSpec.upto numberSquaresSpec)) numberSquaresUptoCard
end Rows
end Go.Proofs.YtlkgmaenobiooaaGreatDoor
