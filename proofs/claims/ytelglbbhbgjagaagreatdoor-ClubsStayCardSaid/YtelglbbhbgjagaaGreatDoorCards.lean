/-
  DERIVED. GIVEN WITH THE SEED: THE CARDS: each row of YtelglbbhbgjagaaGreatDoorRows.lean that lists a variable, with what it lists TIED to the program's text (the seventh form; the later family's looks); each row that meets fmt, with fmt's text TOLD by the authors' own Lean function (tested against real Go, not proved from fmt's source: count such statements apart). THE CARD IS WHAT COUNTS. Prove the row's statement (the work); the ties are given (YtelglbbhbgjagaaGreatDoorTie.lean); close each card by the builder's one call (the guide's Derived/Test/ToyasCard.lean, 'card_holds'). Laid BY PROGRAM, IN A SANDBOX (cutbox-door.mjs). By AI agents, Wed Nov 11 2026. No macro, syntax, notation, axiom, sorry.
-/
import Derived.Test.YtelglbbhbgjagaaGreatDoorRows
import GoSem.ClaimSeven
namespace Go.Proofs.YtelglbbhbgjagaaGreatDoor
namespace Rows

/-- THE TIED CARD OF 'pilelaw2.EntrantsRanked'. -/
def entrantsRankedCard : Claim7 := { stood := { row := entrantsRankedRow, standIns := [], harness := (true, "e39e5fa95b354fe96dd4477aef76d030de05c05166cdaf4f20d1c02c1f5eecef"), looks := false }, kinds := [], alts := [], laidByText := true, laidKinds := [.data, .pinned], laidTests := true, laidLooks := .later }
def EntrantsRankedCardSaid : Prop := Claim7.holds Tryz.pinned (.plain (OpenSpec.ofChange entrantsRankedSpec)) entrantsRankedCard

/-- THE TIED CARD OF 'pilekeep2.ClubsStay'. -/
def clubsStayCard : Claim7 := { stood := { row := clubsStayRow, standIns := [], harness := (true, "e39e5fa95b354fe96dd4477aef76d030de05c05166cdaf4f20d1c02c1f5eecef"), looks := false }, kinds := [], alts := [], laidByText := true, laidKinds := [.data, .pinned], laidTests := true, laidLooks := .later }
def ClubsStayCardSaid : Prop := Claim7.holds Tryz.pinned (.plain (OpenSpec.ofChange clubsStaySpec)) clubsStayCard

/-- THE SECOND FORM's CARD OF 'pilelaw2.EntrantsRanked'. -/
def entrantsRankedUptoCard : Claim7 := { stood := { row := entrantsRankedUptoRow, standIns := [], harness := (true, "e39e5fa95b354fe96dd4477aef76d030de05c05166cdaf4f20d1c02c1f5eecef"), looks := false }, kinds := [], alts := [], laidByText := true, laidKinds := [.data, .pinned], laidTests := true, laidLooks := .later }
def EntrantsRankedUptoCardSaid : Prop := Claim7.holds Tryz.pinned (.plain (OpenSpec.upto entrantsRankedSpec)) entrantsRankedUptoCard

/-- THE SECOND FORM's CARD OF 'pilekeep2.ClubsStay'. -/
def clubsStayUptoCard : Claim7 := { stood := { row := clubsStayUptoRow, standIns := [], harness := (true, "e39e5fa95b354fe96dd4477aef76d030de05c05166cdaf4f20d1c02c1f5eecef"), looks := false }, kinds := [], alts := [], laidByText := true, laidKinds := [.data, .pinned], laidTests := true, laidLooks := .later }
def ClubsStayUptoCardSaid : Prop := Claim7.holds Tryz.pinned (.plain (OpenSpec.upto clubsStaySpec)) clubsStayUptoCard
end Rows
end Go.Proofs.YtelglbbhbgjagaaGreatDoor
