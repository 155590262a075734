/-
  DERIVED. GIVEN WITH THE SEED: THE CARDS: each row of YtkkkhbhbjlikhaaGreatDoorRows.lean that lists a variable, with what it lists TIED to the program's text (the seventh form; the later family's looks); each row that meets fmt, with fmt's text TOLD by the authors' own Lean function (tested against real Go, not proved from fmt's source: count such statements apart). THE CARD IS WHAT COUNTS. Prove the row's statement (the work); the ties are given (YtkkkhbhbjlikhaaGreatDoorTie.lean); close each card by the builder's one call (the guide's Derived/Test/ToyasCard.lean, 'card_holds'). Laid BY PROGRAM, IN A SANDBOX (cutbox-door.mjs). By AI agents, Wed Nov 11 2026. No macro, syntax, notation, axiom, sorry.
-/
import Derived.Test.YtkkkhbhbjlikhaaGreatDoorRows
import GoSem.ClaimSeven
namespace Go.Proofs.YtkkkhbhbjlikhaaGreatDoor
namespace Rows

/-- THE TIED CARD OF 'pilelaw2.NetsAnswer'. -/
def netsAnswerCard : Claim7 := { stood := { row := netsAnswerRow, standIns := [], harness := (true, "50ee1d4bdc9eb0e67a75f5ba068d3fd3fad7a74ceca18fb66d81dbf959ce73ca"), looks := true }, kinds := [], alts := [], laidByText := true, laidKinds := [.data, .data, .data, .data, .sentinel, .sentinel, .pinned], laidTests := true, laidLooks := .later }
def NetsAnswerCardSaid : Prop := Claim7.holds Tryz.pinned (.plain (OpenSpec.ofChange netsAnswerSpec)) netsAnswerCard

/-- THE SECOND FORM's CARD OF 'pilelaw2.NetsAnswer'. -/
def netsAnswerUptoCard : Claim7 := { stood := { row := netsAnswerUptoRow, standIns := [], harness := (true, "50ee1d4bdc9eb0e67a75f5ba068d3fd3fad7a74ceca18fb66d81dbf959ce73ca"), looks := true }, kinds := [], alts := [], laidByText := true, laidKinds := [.data, .data, .data, .data, .sentinel, .sentinel, .pinned], laidTests := true, laidLooks := .later }
def NetsAnswerUptoCardSaid : Prop := Claim7.holds Tryz.pinned (.plain (OpenSpec.upto netsAnswerSpec)) netsAnswerUptoCard
end Rows
end Go.Proofs.YtkkkhbhbjlikhaaGreatDoor
