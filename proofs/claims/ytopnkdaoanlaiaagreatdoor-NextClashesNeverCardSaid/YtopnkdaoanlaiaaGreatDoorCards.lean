/-
  DERIVED. GIVEN WITH THE SEED: THE CARDS: each row of YtopnkdaoanlaiaaGreatDoorRows.lean that lists a variable, with what it lists TIED to the program's text (the seventh form; the later family's looks); each row that meets fmt, with fmt's text TOLD by the authors' own Lean function (tested against real Go, not proved from fmt's source: count such statements apart). THE CARD IS WHAT COUNTS. Prove the row's statement (the work); the ties are given (YtopnkdaoanlaiaaGreatDoorTie.lean); close each card by the builder's one call (the guide's Derived/Test/ToyasCard.lean, 'card_holds'). Laid BY PROGRAM, IN A SANDBOX (cutbox-door.mjs). By AI agents, Wed Nov 11 2026. No macro, syntax, notation, axiom, sorry.
-/
import Derived.Test.YtopnkdaoanlaiaaGreatDoorRows
import GoSem.ClaimSeven
namespace Go.Proofs.YtopnkdaoanlaiaaGreatDoor
namespace Rows

/-- THE TIED CARD OF 'pilekeep2.NextClashesNever'. -/
def nextClashesNeverCard : Claim7 := { stood := { row := nextClashesNeverRow, standIns := [], harness := (true, "ad9ec5b821c2009f6adf79757563453f72026eb6b5568a6829d45c24d9eaf9d0"), looks := true }, kinds := [], alts := [], laidByText := true, laidKinds := [.data, .data, .data, .data, .pinned], laidTests := true, laidLooks := .later }
def NextClashesNeverCardSaid : Prop := Claim7.holds Tryz.pinned (.plain (OpenSpec.ofChange nextClashesNeverSpec)) nextClashesNeverCard

/-- THE SECOND FORM's CARD OF 'pilekeep2.NextClashesNever'. -/
def nextClashesNeverUptoCard : Claim7 := { stood := { row := nextClashesNeverUptoRow, standIns := [], harness := (true, "ad9ec5b821c2009f6adf79757563453f72026eb6b5568a6829d45c24d9eaf9d0"), looks := true }, kinds := [], alts := [], laidByText := true, laidKinds := [.data, .data, .data, .data, .pinned], laidTests := true, laidLooks := .later }
def NextClashesNeverUptoCardSaid : Prop := Claim7.holds Tryz.pinned (.plain (OpenSpec.upto nextClashesNeverSpec)) nextClashesNeverUptoCard
end Rows
end Go.Proofs.YtopnkdaoanlaiaaGreatDoor
