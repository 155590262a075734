/-
  DERIVED. GIVEN WITH THE SEED: THE CARDS: each row of YtbnjbajipjjbgaaGreatDoorRows.lean that lists a variable, with what it lists TIED to the program's text (the seventh form; the later family's looks); each row that meets fmt, with fmt's text TOLD by the authors' own Lean function (tested against real Go, not proved from fmt's source: count such statements apart). THE CARD IS WHAT COUNTS. Prove the row's statement (the work); the ties are given (YtbnjbajipjjbgaaGreatDoorTie.lean); close each card by the builder's one call (the guide's Derived/Test/ToyasCard.lean, 'card_holds'). Laid BY PROGRAM, IN A SANDBOX (cutbox-door.mjs). By AI agents, Wed Nov 11 2026. No macro, syntax, notation, axiom, sorry.
-/
import Derived.Test.YtbnjbajipjjbgaaGreatDoorRows
import GoSem.ClaimSeven
namespace Go.Proofs.YtbnjbajipjjbgaaGreatDoor
namespace Rows

/-- THE TIED CARD OF 'pilelaw2.DeedTexts'. -/
def deedTextsCard : Claim7 := { stood := { row := deedTextsRow, standIns := [], harness := (true, "60c042aec05a4adc8249d4209d9ad326d9098a3aaa3b5dc74b52ee896e636e15"), looks := true }, kinds := [], alts := [], laidByText := true, laidKinds := [.data, .data, .data, .data, .sentinel, .sentinel, .pinned], laidTests := true, laidLooks := .later }
def DeedTextsCardSaid : Prop := Claim7.holds Tryz.pinned (.plain (OpenSpec.ofChange deedTextsSpec)) deedTextsCard

/-- THE SECOND FORM's CARD OF 'pilelaw2.DeedTexts'. -/
def deedTextsUptoCard : Claim7 := { stood := { row := deedTextsUptoRow, standIns := [], harness := (true, "60c042aec05a4adc8249d4209d9ad326d9098a3aaa3b5dc74b52ee896e636e15"), looks := true }, kinds := [], alts := [], laidByText := true, laidKinds := [.data, .data, .data, .data, .sentinel, .sentinel, .pinned], laidTests := true, laidLooks := .later }
def DeedTextsUptoCardSaid : Prop := Claim7.holds Tryz.pinned (.plain (OpenSpec.upto deedTextsSpec)) deedTextsUptoCard
end Rows
end Go.Proofs.YtbnjbajipjjbgaaGreatDoor
