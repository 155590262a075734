/-
  DERIVED. GIVEN WITH THE SEED: THE CARDS: each row of YtdabjgppkghiaaaGreatDoorRows.lean that lists a variable, with what it lists TIED to the program's text (the seventh form; the later family's looks); each row that meets fmt, with fmt's text TOLD by the authors' own Lean function (tested against real Go, not proved from fmt's source: count such statements apart). THE CARD IS WHAT COUNTS. Prove the row's statement (the work); the ties are given (YtdabjgppkghiaaaGreatDoorTie.lean); close each card by the builder's one call (the guide's Derived/Test/ToyasCard.lean, 'card_holds'). Laid BY PROGRAM, IN A SANDBOX (cutbox-door.mjs). By AI agents, Wed Nov 11 2026. No macro, syntax, notation, axiom, sorry.
-/
import Derived.Test.YtdabjgppkghiaaaGreatDoorRows
import GoSem.ClaimSeven
namespace Go.Proofs.YtdabjgppkghiaaaGreatDoor
namespace Rows

/-- THE TIED CARD OF 'pilekeep2.WindowsPermit'. -/
def windowsPermitCard : Claim7 := { stood := { row := windowsPermitRow, standIns := [], harness := (true, "b5f25a1c003e6586a4fb75518afa5ab2cc23d1ecd18579444686c5cb5ee5ed4e"), looks := false }, kinds := [], alts := [], laidByText := true, laidKinds := [.data, .pinned], laidTests := true, laidLooks := .later }
def WindowsPermitCardSaid : Prop := Claim7.holds Tryz.pinned (.plain (OpenSpec.ofChange windowsPermitSpec)) windowsPermitCard

/-- THE SECOND FORM's CARD OF 'pilekeep2.WindowsPermit'. -/
def windowsPermitUptoCard : Claim7 := { stood := { row := windowsPermitUptoRow, standIns := [], harness := (true, "b5f25a1c003e6586a4fb75518afa5ab2cc23d1ecd18579444686c5cb5ee5ed4e"), looks := false }, kinds := [], alts := [], laidByText := true, laidKinds := [.data, .pinned], laidTests := true, laidLooks := .later }
def WindowsPermitUptoCardSaid : Prop := Claim7.holds Tryz.pinned (.plain (OpenSpec.upto windowsPermitSpec)) windowsPermitUptoCard
end Rows
end Go.Proofs.YtdabjgppkghiaaaGreatDoor
