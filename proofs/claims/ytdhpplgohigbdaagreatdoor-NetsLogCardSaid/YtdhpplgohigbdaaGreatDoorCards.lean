/-
  DERIVED. GIVEN WITH THE SEED: THE CARDS: each row of YtdhpplgohigbdaaGreatDoorRows.lean that lists a variable, with what it lists TIED to the program's text (the seventh form; the later family's looks); each row that meets fmt, with fmt's text TOLD by the authors' own Lean function (tested against real Go, not proved from fmt's source: count such statements apart). THE CARD IS WHAT COUNTS. Prove the row's statement (the work); the ties are given (YtdhpplgohigbdaaGreatDoorTie.lean); close each card by the builder's one call (the guide's Derived/Test/ToyasCard.lean, 'card_holds'). Laid BY PROGRAM, IN A SANDBOX (cutbox-door.mjs). By AI agents, Wed Nov 11 2026. No macro, syntax, notation, axiom, sorry.
-/
import Derived.Test.YtdhpplgohigbdaaGreatDoorRows
import GoSem.ClaimSeven
namespace Go.Proofs.YtdhpplgohigbdaaGreatDoor
namespace Rows

/-- THE TIED CARD OF 'pilelaw2.NetsLog'. -/
def netsLogCard : Claim7 := { stood := { row := netsLogRow, standIns := [], harness := (true, "1250522428f8ba110e92025a14cd57768ff84dd790143f68e1c450a302272855"), looks := false }, kinds := [], alts := [], laidByText := true, laidKinds := [.data, .pinned], laidTests := true, laidLooks := .later }
def NetsLogCardSaid : Prop := Claim7.holds Tryz.pinned (.plain (OpenSpec.ofChange netsLogSpec)) netsLogCard

/-- THE SECOND FORM's CARD OF 'pilelaw2.NetsLog'. -/
def netsLogUptoCard : Claim7 := { stood := { row := netsLogUptoRow, standIns := [], harness := (true, "1250522428f8ba110e92025a14cd57768ff84dd790143f68e1c450a302272855"), looks := false }, kinds := [], alts := [], laidByText := true, laidKinds := [.data, .pinned], laidTests := true, laidLooks := .later }
def NetsLogUptoCardSaid : Prop := Claim7.holds Tryz.pinned (.plain (OpenSpec.upto netsLogSpec)) netsLogUptoCard
end Rows
end Go.Proofs.YtdhpplgohigbdaaGreatDoor
