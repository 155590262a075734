/-
  DERIVED. GIVEN WITH THE SEED: THE CARDS: each row of YtjmnkdlhpemooaaGreatDoorRows.lean that lists a variable, with what it lists TIED to the program's text (the seventh form; the later family's looks); each row that meets fmt, with fmt's text TOLD by the authors' own Lean function (tested against real Go, not proved from fmt's source: count such statements apart). THE CARD IS WHAT COUNTS. Prove the row's statement (the work); the ties are given (YtjmnkdlhpemooaaGreatDoorTie.lean); close each card by the builder's one call (the guide's Derived/Test/ToyasCard.lean, 'card_holds'). Laid BY PROGRAM, IN A SANDBOX (cutbox-door.mjs). By AI agents, Wed Nov 11 2026. No macro, syntax, notation, axiom, sorry.
-/
import Derived.Test.YtjmnkdlhpemooaaGreatDoorRows
import GoSem.ClaimSeven
namespace Go.Proofs.YtjmnkdlhpemooaaGreatDoor
namespace Rows

/-- THE TIED CARD OF 'piletop.TopMirrorsAreGood'. -/
def topMirrorsAreGoodCard : Claim7 := { stood := { row := topMirrorsAreGoodRow, standIns := [], harness := (true, "02ada62511a55e0d610d149fcc44cc2bfbd50118ef054fe40b7dbf937c176eba"), looks := false }, kinds := [], alts := [], laidByText := true, laidKinds := [.data, .pinned], laidTests := true, laidLooks := .later }
def TopMirrorsAreGoodCardSaid : Prop := Claim7.holds Tryz.pinned (.plain (OpenSpec.ofChange topMirrorsAreGoodSpec)) topMirrorsAreGoodCard

/-- THE SECOND FORM's CARD OF 'piletop.TopMirrorsAreGood'. -/
def topMirrorsAreGoodUptoCard : Claim7 := { stood := { row := topMirrorsAreGoodUptoRow, standIns := [], harness := (true, "02ada62511a55e0d610d149fcc44cc2bfbd50118ef054fe40b7dbf937c176eba"), looks := false }, kinds := [], alts := [], laidByText := true, laidKinds := [.data, .pinned], laidTests := true, laidLooks := .later }
def TopMirrorsAreGoodUptoCardSaid : Prop := Claim7.holds Tryz.pinned (.plain (OpenSpec.upto topMirrorsAreGoodSpec)) topMirrorsAreGoodUptoCard
end Rows
end Go.Proofs.YtjmnkdlhpemooaaGreatDoor
