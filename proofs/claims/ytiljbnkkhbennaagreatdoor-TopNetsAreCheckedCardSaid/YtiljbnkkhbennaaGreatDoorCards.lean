/-
  DERIVED. GIVEN WITH THE SEED: THE CARDS: each row of YtiljbnkkhbennaaGreatDoorRows.lean that lists a variable, with what it lists TIED to the program's text (the seventh form; the later family's looks); each row that meets fmt, with fmt's text TOLD by the authors' own Lean function (tested against real Go, not proved from fmt's source: count such statements apart). THE CARD IS WHAT COUNTS. Prove the row's statement (the work); the ties are given (YtiljbnkkhbennaaGreatDoorTie.lean); close each card by the builder's one call (the guide's Derived/Test/ToyasCard.lean, 'card_holds'). Laid BY PROGRAM, IN A SANDBOX (cutbox-door.mjs). By AI agents, Wed Nov 11 2026. No macro, syntax, notation, axiom, sorry.
-/
import Derived.Test.YtiljbnkkhbennaaGreatDoorRows
import GoSem.ClaimSeven
namespace Go.Proofs.YtiljbnkkhbennaaGreatDoor
namespace Rows

/-- THE TIED CARD OF 'piletop.TopNetsAreChecked'. -/
def topNetsAreCheckedCard : Claim7 := { stood := { row := topNetsAreCheckedRow, standIns := [], harness := (true, "4efdfb34110d251cc51b2442ffd3d098de0fac38074192ad268c5a18c28e6381"), looks := false }, kinds := [], alts := [], laidByText := true, laidKinds := [.data, .data, .data, .data, .pinned], laidTests := true, laidLooks := .later }
def TopNetsAreCheckedCardSaid : Prop := Claim7.holds Tryz.pinned (.plain (OpenSpec.ofChange topNetsAreCheckedSpec)) topNetsAreCheckedCard

/-- THE SECOND FORM's CARD OF 'piletop.TopNetsAreChecked'. -/
def topNetsAreCheckedUptoCard : Claim7 := { stood := { row := topNetsAreCheckedUptoRow, standIns := [], harness := (true, "4efdfb34110d251cc51b2442ffd3d098de0fac38074192ad268c5a18c28e6381"), looks := false }, kinds := [], alts := [], laidByText := true, laidKinds := [.data, .data, .data, .data, .pinned], laidTests := true, laidLooks := .later }
def TopNetsAreCheckedUptoCardSaid : Prop := Claim7.holds Tryz.pinned (.plain (OpenSpec.upto topNetsAreCheckedSpec)) topNetsAreCheckedUptoCard
end Rows
end Go.Proofs.YtiljbnkkhbennaaGreatDoor
