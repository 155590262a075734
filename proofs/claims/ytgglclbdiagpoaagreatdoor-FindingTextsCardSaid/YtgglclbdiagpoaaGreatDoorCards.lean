/-
  DERIVED. GIVEN WITH THE SEED: THE CARDS: each row of YtgglclbdiagpoaaGreatDoorRows.lean that lists a variable, with what it lists TIED to the program's text (the seventh form; the later family's looks); each row that meets fmt, with fmt's text TOLD by the authors' own Lean function (tested against real Go, not proved from fmt's source: count such statements apart). THE CARD IS WHAT COUNTS. Prove the row's statement (the work); the ties are given (YtgglclbdiagpoaaGreatDoorTie.lean); close each card by the builder's one call (the guide's Derived/Test/ToyasCard.lean, 'card_holds'). Laid BY PROGRAM, IN A SANDBOX (cutbox-door.mjs). By AI agents, Wed Nov 11 2026. No macro, syntax, notation, axiom, sorry.
-/
import Derived.Test.YtgglclbdiagpoaaGreatDoorRows
import GoSem.ClaimSeven
namespace Go.Proofs.YtgglclbdiagpoaaGreatDoor
namespace Rows

/-- THE TIED CARD OF 'pilelaw2.FindingTexts'. -/
def findingTextsCard : Claim7 := { stood := { row := findingTextsRow, standIns := [], harness := (true, "b7d4f2f1d773492e9eacea74f8bd920b864d5136b9e5384f50de92c476e77438"), looks := true }, kinds := [], alts := [], laidByText := true, laidKinds := [.data, .data, .data, .data, .sentinel, .sentinel, .pinned], laidTests := true, laidLooks := .later }
def FindingTextsCardSaid : Prop := Claim7.holds Tryz.pinned (.plain (OpenSpec.ofChange findingTextsSpec)) findingTextsCard

/-- THE SECOND FORM's CARD OF 'pilelaw2.FindingTexts'. -/
def findingTextsUptoCard : Claim7 := { stood := { row := findingTextsUptoRow, standIns := [], harness := (true, "b7d4f2f1d773492e9eacea74f8bd920b864d5136b9e5384f50de92c476e77438"), looks := true }, kinds := [], alts := [], laidByText := true, laidKinds := [.data, .data, .data, .data, .sentinel, .sentinel, .pinned], laidTests := true, laidLooks := .later }
def FindingTextsUptoCardSaid : Prop := Claim7.holds Tryz.pinned (.plain (OpenSpec.upto findingTextsSpec)) findingTextsUptoCard
end Rows
end Go.Proofs.YtgglclbdiagpoaaGreatDoor
