/-
  DERIVED. GIVEN WITH THE SEED: THE CARDS: each row of YtioeckojljemcaaGreatDoorRows.lean that lists a variable, with what it lists TIED to the program's text (the seventh form; the later family's looks); each row that meets fmt, with fmt's text TOLD by the authors' own Lean function (tested against real Go, not proved from fmt's source: count such statements apart). THE CARD IS WHAT COUNTS. Prove the row's statement (the work); the ties are given (YtioeckojljemcaaGreatDoorTie.lean); close each card by the builder's one call (the guide's Derived/Test/ToyasCard.lean, 'card_holds'). Laid BY PROGRAM, IN A SANDBOX (cutbox-door.mjs). By AI agents, Wed Nov 11 2026. No macro, syntax, notation, axiom, sorry.
-/
import Derived.Test.YtioeckojljemcaaGreatDoorRows
import GoSem.ClaimSeven
namespace Go.Proofs.YtioeckojljemcaaGreatDoor
namespace Rows

/-- THE TIED CARD OF 'pilekeep2.PairsAreMutual'. -/
def pairsAreMutualCard : Claim7 := { stood := { row := pairsAreMutualRow, standIns := [], harness := (true, "2e19ae75a5f050f8737e742ef15732679ab540ee6f64f97ac9f184ac86554ced"), looks := false }, kinds := [], alts := [], laidByText := true, laidKinds := [.data, .pinned], laidTests := true, laidLooks := .later }
def PairsAreMutualCardSaid : Prop := Claim7.holds Tryz.pinned (.plain (OpenSpec.ofChange pairsAreMutualSpec)) pairsAreMutualCard

/-- THE SECOND FORM's CARD OF 'pilekeep2.PairsAreMutual'. -/
def pairsAreMutualUptoCard : Claim7 := { stood := { row := pairsAreMutualUptoRow, standIns := [], harness := (true, "2e19ae75a5f050f8737e742ef15732679ab540ee6f64f97ac9f184ac86554ced"), looks := false }, kinds := [], alts := [], laidByText := true, laidKinds := [.data, .pinned], laidTests := true, laidLooks := .later }
def PairsAreMutualUptoCardSaid : Prop := Claim7.holds Tryz.pinned (.plain (OpenSpec.upto pairsAreMutualSpec)) pairsAreMutualUptoCard
end Rows
end Go.Proofs.YtioeckojljemcaaGreatDoor
