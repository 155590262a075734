/-
  DERIVED. GIVEN WITH THE SEED: THE CARDS: each row of YtpaljghdgljgiaaGreatDoorRows.lean that lists a variable, with what it lists TIED to the program's text (the seventh form; the later family's looks); each row that meets fmt, with fmt's text TOLD by the authors' own Lean function (tested against real Go, not proved from fmt's source: count such statements apart). THE CARD IS WHAT COUNTS. Prove the row's statement (the work); the ties are given (YtpaljghdgljgiaaGreatDoorTie.lean); close each card by the builder's one call (the guide's Derived/Test/ToyasCard.lean, 'card_holds'). Laid BY PROGRAM, IN A SANDBOX (cutbox-door.mjs). By AI agents, Wed Nov 11 2026. No macro, syntax, notation, axiom, sorry.
-/
import Derived.Test.YtpaljghdgljgiaaGreatDoorRows
import GoSem.ClaimSeven
namespace Go.Proofs.YtpaljghdgljgiaaGreatDoor
namespace Rows

/-- THE TIED CARD OF 'pilelaw2.ContactsFound'. -/
def contactsFoundCard : Claim7 := { stood := { row := contactsFoundRow, standIns := [], harness := (true, "b53b180879e6f6b5c37c144a41913effa17d9fcf2a60685b01aa0d1332171510"), looks := false }, kinds := [], alts := [], laidByText := true, laidKinds := [.data, .data, .data, .data, .pinned], laidTests := true, laidLooks := .later }
def ContactsFoundCardSaid : Prop := Claim7.holds Tryz.pinned (.plain (OpenSpec.ofChange contactsFoundSpec)) contactsFoundCard

/-- THE SECOND FORM's CARD OF 'pilelaw2.ContactsFound'. -/
def contactsFoundUptoCard : Claim7 := { stood := { row := contactsFoundUptoRow, standIns := [], harness := (true, "b53b180879e6f6b5c37c144a41913effa17d9fcf2a60685b01aa0d1332171510"), looks := false }, kinds := [], alts := [], laidByText := true, laidKinds := [.data, .data, .data, .data, .pinned], laidTests := true, laidLooks := .later }
def ContactsFoundUptoCardSaid : Prop := Claim7.holds Tryz.pinned (.plain (OpenSpec.upto contactsFoundSpec)) contactsFoundUptoCard
end Rows
end Go.Proofs.YtpaljghdgljgiaaGreatDoor
