/-
  DERIVED. GIVEN WITH THE SEED: THE CARDS: each row of YtppdbdblllpimaaGreatDoorRows.lean that lists a variable, with what it lists TIED to the program's text (the seventh form; the later family's looks); each row that meets fmt, with fmt's text TOLD by the authors' own Lean function (tested against real Go, not proved from fmt's source: count such statements apart). THE CARD IS WHAT COUNTS. Prove the row's statement (the work); the ties are given (YtppdbdblllpimaaGreatDoorTie.lean); close each card by the builder's one call (the guide's Derived/Test/ToyasCard.lean, 'card_holds'). Laid BY PROGRAM, IN A SANDBOX (cutbox-door.mjs). By AI agents, Wed Nov 11 2026. No macro, syntax, notation, axiom, sorry.
-/
import Derived.Test.YtppdbdblllpimaaGreatDoorRows
import GoSem.ClaimSeven
namespace Go.Proofs.YtppdbdblllpimaaGreatDoor
namespace Rows

/-- THE TIED CARD OF 'pilelaw2.NumbersGiven'. -/
def numbersGivenCard : Claim7 := { stood := { row := numbersGivenRow, standIns := [], harness := (true, "94d0307385eb30bc1a77b2ebabc43c8c3f0acc76d3e4c8b33d0b79bbe8c92959"), looks := true }, kinds := [], alts := [], laidByText := true, laidKinds := [.data, .data, .data, .data, .pinned], laidTests := true, laidLooks := .later }
def NumbersGivenCardSaid : Prop := Claim7.holds Tryz.pinned (.plain (OpenSpec.ofChange numbersGivenSpec)) numbersGivenCard

/-- THE SECOND FORM's CARD OF 'pilelaw2.NumbersGiven'. -/
def numbersGivenUptoCard : Claim7 := { stood := { row := numbersGivenUptoRow, standIns := [], harness := (true, "94d0307385eb30bc1a77b2ebabc43c8c3f0acc76d3e4c8b33d0b79bbe8c92959"), looks := true }, kinds := [], alts := [], laidByText := true, laidKinds := [.data, .data, .data, .data, .pinned], laidTests := true, laidLooks := .later }
def NumbersGivenUptoCardSaid : Prop := Claim7.holds Tryz.pinned (.plain (OpenSpec.upto numbersGivenSpec)) numbersGivenUptoCard
end Rows
end Go.Proofs.YtppdbdblllpimaaGreatDoor
