/-
  DERIVED. GIVEN WITH THE SEED: THE CARDS: each row of YteljhjdcaaebcaaGreatDoorRows.lean that lists a variable, with what it lists TIED to the program's text (the seventh form; the later family's looks); each row that meets fmt, with fmt's text TOLD by the authors' own Lean function (tested against real Go, not proved from fmt's source: count such statements apart). THE CARD IS WHAT COUNTS. Prove the row's statement (the work); the ties are given (YteljhjdcaaebcaaGreatDoorTie.lean); close each card by the builder's one call (the guide's Derived/Test/ToyasCard.lean, 'card_holds'). Laid BY PROGRAM, IN A SANDBOX (cutbox-door.mjs). By AI agents, Wed Nov 11 2026. No macro, syntax, notation, axiom, sorry.
-/
import Derived.Test.YteljhjdcaaebcaaGreatDoorRows
import GoSem.ClaimSeven
namespace Go.Proofs.YteljhjdcaaebcaaGreatDoor
namespace Rows

/-- THE TIED CARD OF 'pilekeep2.MembersAreInside'. -/
def membersAreInsideCard : Claim7 := { stood := { row := membersAreInsideRow, standIns := [], harness := (true, "e446792a0f186cda0e03d036fa6e4fe5b4f665f10fa6fa108643ef250bf8368f"), looks := false }, kinds := [], alts := [], laidByText := true, laidKinds := [.data, .pinned], laidTests := true, laidLooks := .later }
def MembersAreInsideCardSaid : Prop := Claim7.holds Tryz.pinned (.plain (OpenSpec.ofChange membersAreInsideSpec)) membersAreInsideCard

/-- THE SECOND FORM's CARD OF 'pilekeep2.MembersAreInside'. -/
def membersAreInsideUptoCard : Claim7 := { stood := { row := membersAreInsideUptoRow, standIns := [], harness := (true, "e446792a0f186cda0e03d036fa6e4fe5b4f665f10fa6fa108643ef250bf8368f"), looks := false }, kinds := [], alts := [], laidByText := true, laidKinds := [.data, .pinned], laidTests := true, laidLooks := .later }
def MembersAreInsideUptoCardSaid : Prop := Claim7.holds Tryz.pinned (.plain (OpenSpec.upto membersAreInsideSpec)) membersAreInsideUptoCard
end Rows
end Go.Proofs.YteljhjdcaaebcaaGreatDoor
