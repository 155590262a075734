/-
  DERIVED. GIVEN WITH THE SEED: THE CARDS: each row of YtbogdflhnhohfaaGreatDoorRows.lean that lists a variable, with what it lists TIED to the program's text (the seventh form; the later family's looks); each row that meets fmt, with fmt's text TOLD by the authors' own Lean function (tested against real Go, not proved from fmt's source: count such statements apart). THE CARD IS WHAT COUNTS. Prove the row's statement (the work); the ties are given (YtbogdflhnhohfaaGreatDoorTie.lean); close each card by the builder's one call (the guide's Derived/Test/ToyasCard.lean, 'card_holds'). Laid BY PROGRAM, IN A SANDBOX (cutbox-door.mjs). By AI agents, Wed Nov 11 2026. No macro, syntax, notation, axiom, sorry.
-/
import Derived.Test.YtbogdflhnhohfaaGreatDoorRows
import GoSem.ClaimSeven
namespace Go.Proofs.YtbogdflhnhohfaaGreatDoor
namespace Rows

/-- THE TIED CARD OF 'pilelaw2.ContactsMended'. -/
def contactsMendedCard : Claim7 := { stood := { row := contactsMendedRow, standIns := [], harness := (true, "b5ef1505a3ba6fc744d1689bee13f952d7d7c0a9186062e1e304d2ef95db4cd8"), looks := false }, kinds := [], alts := [], laidByText := true, laidKinds := [.data, .data, .data, .data, .pinned], laidTests := true, laidLooks := .later }
def ContactsMendedCardSaid : Prop := Claim7.holds Tryz.pinned (.plain (OpenSpec.ofChange contactsMendedSpec)) contactsMendedCard

/-- THE SECOND FORM's CARD OF 'pilelaw2.ContactsMended'. -/
def contactsMendedUptoCard : Claim7 := { stood := { row := contactsMendedUptoRow, standIns := [], harness := (true, "b5ef1505a3ba6fc744d1689bee13f952d7d7c0a9186062e1e304d2ef95db4cd8"), looks := false }, kinds := [], alts := [], laidByText := true, laidKinds := [.data, .data, .data, .data, .pinned], laidTests := true, laidLooks := .later }
def ContactsMendedUptoCardSaid : Prop := Claim7.holds Tryz.pinned (.plain (OpenSpec.upto contactsMendedSpec)) contactsMendedUptoCard
end Rows
end Go.Proofs.YtbogdflhnhohfaaGreatDoor
