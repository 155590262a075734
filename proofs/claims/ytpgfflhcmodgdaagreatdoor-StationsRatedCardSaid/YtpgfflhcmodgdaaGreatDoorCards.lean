/-
  DERIVED. GIVEN WITH THE SEED: THE CARDS: each row of YtpgfflhcmodgdaaGreatDoorRows.lean that lists a variable, with what it lists TIED to the program's text (the seventh form; the later family's looks); each row that meets fmt, with fmt's text TOLD by the authors' own Lean function (tested against real Go, not proved from fmt's source: count such statements apart). THE CARD IS WHAT COUNTS. Prove the row's statement (the work); the ties are given (YtpgfflhcmodgdaaGreatDoorTie.lean); close each card by the builder's one call (the guide's Derived/Test/ToyasCard.lean, 'card_holds'). Laid BY PROGRAM, IN A SANDBOX (cutbox-door.mjs). By AI agents, Wed Nov 11 2026. No macro, syntax, notation, axiom, sorry.
-/
import Derived.Test.YtpgfflhcmodgdaaGreatDoorRows
import GoSem.ClaimSeven
namespace Go.Proofs.YtpgfflhcmodgdaaGreatDoor
namespace Rows

/-- THE TIED CARD OF 'pilelaw2.StationsRated'. -/
def stationsRatedCard : Claim7 := { stood := { row := stationsRatedRow, standIns := [], harness := (true, "a0186e3bc27ce47688098666122cba3edb5d4ddbf65a0c0f8dc335c6a11e5f2d"), looks := false }, kinds := [], alts := [], laidByText := true, laidKinds := [.data, .data, .data, .data, .pinned], laidTests := true, laidLooks := .later }
def StationsRatedCardSaid : Prop := Claim7.holds Tryz.pinned (.plain (OpenSpec.ofChange stationsRatedSpec)) stationsRatedCard

/-- THE SECOND FORM's CARD OF 'pilelaw2.StationsRated'. -/
def stationsRatedUptoCard : Claim7 := { stood := { row := stationsRatedUptoRow, standIns := [], harness := (true, "a0186e3bc27ce47688098666122cba3edb5d4ddbf65a0c0f8dc335c6a11e5f2d"), looks := false }, kinds := [], alts := [], laidByText := true, laidKinds := [.data, .data, .data, .data, .pinned], laidTests := true, laidLooks := .later }
def StationsRatedUptoCardSaid : Prop := Claim7.holds Tryz.pinned (.plain (OpenSpec.upto stationsRatedSpec)) stationsRatedUptoCard
end Rows
end Go.Proofs.YtpgfflhcmodgdaaGreatDoor
