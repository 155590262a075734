/-
  DERIVED. GIVEN WITH THE SEED: THE CARDS: each row of YtljobbkidfdbhaaGreatDoorRows.lean that lists a variable, with what it lists TIED to the program's text (the seventh form; the later family's looks); each row that meets fmt, with fmt's text TOLD by the authors' own Lean function (tested against real Go, not proved from fmt's source: count such statements apart). THE CARD IS WHAT COUNTS. Prove the row's statement (the work); the ties are given (YtljobbkidfdbhaaGreatDoorTie.lean); close each card by the builder's one call (the guide's Derived/Test/ToyasCard.lean, 'card_holds'). Laid BY PROGRAM, IN A SANDBOX (cutbox-door.mjs). By AI agents, Wed Nov 11 2026. No macro, syntax, notation, axiom, sorry.
-/
import Derived.Test.YtljobbkidfdbhaaGreatDoorRows
import GoSem.ClaimSeven
namespace Go.Proofs.YtljobbkidfdbhaaGreatDoor
namespace Rows

/-- THE TIED CARD OF 'piletop.TopGoodIsConfirmed'. -/
def topGoodIsConfirmedCard : Claim7 := { stood := { row := topGoodIsConfirmedRow, standIns := [], harness := (true, "1c2762d8a2f4921a5565ebe24e3e2d7eebe2956017ff361d6649333f3dec3a34"), looks := false }, kinds := [], alts := [], laidByText := true, laidKinds := [.data, .data, .data, .data, .pinned], laidTests := true, laidLooks := .later }
def TopGoodIsConfirmedCardSaid : Prop := Claim7.holds Tryz.pinned (.plain (OpenSpec.ofChange topGoodIsConfirmedSpec)) topGoodIsConfirmedCard

/-- THE SECOND FORM's CARD OF 'piletop.TopGoodIsConfirmed'. -/
def topGoodIsConfirmedUptoCard : Claim7 := { stood := { row := topGoodIsConfirmedUptoRow, standIns := [], harness := (true, "1c2762d8a2f4921a5565ebe24e3e2d7eebe2956017ff361d6649333f3dec3a34"), looks := false }, kinds := [], alts := [], laidByText := true, laidKinds := [.data, .data, .data, .data, .pinned], laidTests := true, laidLooks := .later }
def TopGoodIsConfirmedUptoCardSaid : Prop := Claim7.holds Tryz.pinned (.plain (OpenSpec.upto topGoodIsConfirmedSpec)) topGoodIsConfirmedUptoCard
end Rows
end Go.Proofs.YtljobbkidfdbhaaGreatDoor
