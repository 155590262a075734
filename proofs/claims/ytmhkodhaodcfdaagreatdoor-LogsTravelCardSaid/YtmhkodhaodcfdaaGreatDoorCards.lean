/-
  DERIVED. GIVEN WITH THE SEED: THE CARDS: each row of YtmhkodhaodcfdaaGreatDoorRows.lean that lists a variable, with what it lists TIED to the program's text (the seventh form; the later family's looks); each row that meets fmt, with fmt's text TOLD by the authors' own Lean function (tested against real Go, not proved from fmt's source: count such statements apart). THE CARD IS WHAT COUNTS. Prove the row's statement (the work); the ties are given (YtmhkodhaodcfdaaGreatDoorTie.lean); close each card by the builder's one call (the guide's Derived/Test/ToyasCard.lean, 'card_holds'). Laid BY PROGRAM, IN A SANDBOX (cutbox-door.mjs). By AI agents, Wed Nov 11 2026. No macro, syntax, notation, axiom, sorry.
-/
import Derived.Test.YtmhkodhaodcfdaaGreatDoorRows
import GoSem.ClaimSeven
namespace Go.Proofs.YtmhkodhaodcfdaaGreatDoor
namespace Rows

/-- THE TIED CARD OF 'pilelaw2.LogsTravel'. -/
def logsTravelCard : Claim7 := { stood := { row := logsTravelRow, standIns := [], harness := (true, "0605be03b4828d5d276e46c32dcc97e9d71015115d3d0e8a51158c53b763862a"), looks := true }, kinds := [], alts := [], laidByText := true, laidKinds := [.data, .data, .data, .data, .sentinel, .sentinel, .pinned], laidTests := true, laidLooks := .later }
def LogsTravelCardSaid : Prop := Claim7.holds Tryz.pinned (.plain (OpenSpec.ofChange logsTravelSpec)) logsTravelCard

/-- THE SECOND FORM's CARD OF 'pilelaw2.LogsTravel'. -/
def logsTravelUptoCard : Claim7 := { stood := { row := logsTravelUptoRow, standIns := [], harness := (true, "0605be03b4828d5d276e46c32dcc97e9d71015115d3d0e8a51158c53b763862a"), looks := true }, kinds := [], alts := [], laidByText := true, laidKinds := [.data, .data, .data, .data, .sentinel, .sentinel, .pinned], laidTests := true, laidLooks := .later }
def LogsTravelUptoCardSaid : Prop := Claim7.holds Tryz.pinned (.plain (OpenSpec.upto logsTravelSpec)) logsTravelUptoCard
end Rows
end Go.Proofs.YtmhkodhaodcfdaaGreatDoor
