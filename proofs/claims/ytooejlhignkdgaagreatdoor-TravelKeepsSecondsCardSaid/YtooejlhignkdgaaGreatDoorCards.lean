/-
  DERIVED. GIVEN WITH THE SEED: THE CARDS: each row of YtooejlhignkdgaaGreatDoorRows.lean that lists a variable, with what it lists TIED to the program's text (the seventh form; the later family's looks); each row that meets fmt, with fmt's text TOLD by the authors' own Lean function (tested against real Go, not proved from fmt's source: count such statements apart). THE CARD IS WHAT COUNTS. Prove the row's statement (the work); the ties are given (YtooejlhignkdgaaGreatDoorTie.lean); close each card by the builder's one call (the guide's Derived/Test/ToyasCard.lean, 'card_holds'). Laid BY PROGRAM, IN A SANDBOX (cutbox-door.mjs). By AI agents, Wed Nov 11 2026. No macro, syntax, notation, axiom, sorry.
-/
import Derived.Test.YtooejlhignkdgaaGreatDoorRows
import GoSem.ClaimSeven
namespace Go.Proofs.YtooejlhignkdgaaGreatDoor
namespace Rows

/-- THE TIED CARD OF 'pilekeep2.TravelKeepsSeconds'. -/
def travelKeepsSecondsCard : Claim7 := { stood := { row := travelKeepsSecondsRow, standIns := [], harness := (true, "a747ae8f32a5225562ba8765c81eed2467963c4a4c1aebb759b4415c44a7e1ea"), looks := true }, kinds := [], alts := [], laidByText := true, laidKinds := [.data, .data, .data, .data, .sentinel, .sentinel, .pinned], laidTests := true, laidLooks := .later }
def TravelKeepsSecondsCardSaid : Prop := Claim7.holds Tryz.pinned (.plain (OpenSpec.ofChange travelKeepsSecondsSpec)) travelKeepsSecondsCard

/-- THE SECOND FORM's CARD OF 'pilekeep2.TravelKeepsSeconds'. -/
def travelKeepsSecondsUptoCard : Claim7 := { stood := { row := travelKeepsSecondsUptoRow, standIns := [], harness := (true, "a747ae8f32a5225562ba8765c81eed2467963c4a4c1aebb759b4415c44a7e1ea"), looks := true }, kinds := [], alts := [], laidByText := true, laidKinds := [.data, .data, .data, .data, .sentinel, .sentinel, .pinned], laidTests := true, laidLooks := .later }
def TravelKeepsSecondsUptoCardSaid : Prop := Claim7.holds Tryz.pinned (.plain (OpenSpec.upto travelKeepsSecondsSpec)) travelKeepsSecondsUptoCard
end Rows
end Go.Proofs.YtooejlhignkdgaaGreatDoor
