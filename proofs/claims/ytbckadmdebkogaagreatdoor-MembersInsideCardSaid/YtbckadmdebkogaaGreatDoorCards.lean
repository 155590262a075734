/-
  DERIVED. GIVEN WITH THE SEED: THE CARDS: each row of YtbckadmdebkogaaGreatDoorRows.lean that lists a variable, with what it lists TIED to the program's text (the seventh form; the later family's looks); each row that meets fmt, with fmt's text TOLD by the authors' own Lean function (tested against real Go, not proved from fmt's source: count such statements apart). THE CARD IS WHAT COUNTS. Prove the row's statement (the work); the ties are given (YtbckadmdebkogaaGreatDoorTie.lean); close each card by the builder's one call (the guide's Derived/Test/ToyasCard.lean, 'card_holds'). Laid BY PROGRAM, IN A SANDBOX (cutbox-door.mjs). By AI agents, Wed Nov 11 2026. No macro, syntax, notation, axiom, sorry.
-/
import Derived.Test.YtbckadmdebkogaaGreatDoorRows
import GoSem.ClaimSeven
namespace Go.Proofs.YtbckadmdebkogaaGreatDoor
namespace Rows

/-- THE TIED CARD OF 'pilelaw2.MembersInside'. -/
def membersInsideCard : Claim7 := { stood := { row := membersInsideRow, standIns := [], harness := (true, "6776fe777e7e69b8c533a393ee3d6c42933d0fc54fa76407b803f0557cc3e1f9"), looks := false }, kinds := [], alts := [], laidByText := true, laidKinds := [.data, .pinned], laidTests := true, laidLooks := .later }
def MembersInsideCardSaid : Prop := Claim7.holds Tryz.pinned (.plain (OpenSpec.ofChange membersInsideSpec)) membersInsideCard

/-- THE TIED CARD OF 'pilelaw2.RecordsKept'. -/
def recordsKeptCard : Claim7 := { stood := { row := recordsKeptRow, standIns := [], harness := (true, "6776fe777e7e69b8c533a393ee3d6c42933d0fc54fa76407b803f0557cc3e1f9"), looks := false }, kinds := [], alts := [], laidByText := true, laidKinds := [.data, .pinned], laidTests := true, laidLooks := .later }
def RecordsKeptCardSaid : Prop := Claim7.holds Tryz.pinned (.plain (OpenSpec.ofChange recordsKeptSpec)) recordsKeptCard

/-- THE TIED CARD OF 'pilelaw2.EntrantsRanked'. -/
def entrantsRankedCard : Claim7 := { stood := { row := entrantsRankedRow, standIns := [], harness := (true, "6776fe777e7e69b8c533a393ee3d6c42933d0fc54fa76407b803f0557cc3e1f9"), looks := false }, kinds := [], alts := [], laidByText := true, laidKinds := [.data, .pinned], laidTests := true, laidLooks := .later }
def EntrantsRankedCardSaid : Prop := Claim7.holds Tryz.pinned (.plain (OpenSpec.ofChange entrantsRankedSpec)) entrantsRankedCard

/-- THE SECOND FORM's CARD OF 'pilelaw2.MembersInside'. -/
def membersInsideUptoCard : Claim7 := { stood := { row := membersInsideUptoRow, standIns := [], harness := (true, "6776fe777e7e69b8c533a393ee3d6c42933d0fc54fa76407b803f0557cc3e1f9"), looks := false }, kinds := [], alts := [], laidByText := true, laidKinds := [.data, .pinned], laidTests := true, laidLooks := .later }
def MembersInsideUptoCardSaid : Prop := Claim7.holds Tryz.pinned (.plain (OpenSpec.upto membersInsideSpec)) membersInsideUptoCard

/-- THE SECOND FORM's CARD OF 'pilelaw2.RecordsKept'. -/
def recordsKeptUptoCard : Claim7 := { stood := { row := recordsKeptUptoRow, standIns := [], harness := (true, "6776fe777e7e69b8c533a393ee3d6c42933d0fc54fa76407b803f0557cc3e1f9"), looks := false }, kinds := [], alts := [], laidByText := true, laidKinds := [.data, .pinned], laidTests := true, laidLooks := .later }
def RecordsKeptUptoCardSaid : Prop := Claim7.holds Tryz.pinned (.plain (OpenSpec.upto recordsKeptSpec)) recordsKeptUptoCard

/-- THE SECOND FORM's CARD OF 'pilelaw2.EntrantsRanked'. -/
def entrantsRankedUptoCard : Claim7 := { stood := { row := entrantsRankedUptoRow, standIns := [], harness := (true, "6776fe777e7e69b8c533a393ee3d6c42933d0fc54fa76407b803f0557cc3e1f9"), looks := false }, kinds := [], alts := [], laidByText := true, laidKinds := [.data, .pinned], laidTests := true, laidLooks := .later }
def EntrantsRankedUptoCardSaid : Prop := Claim7.holds Tryz.pinned (.plain (OpenSpec.upto entrantsRankedSpec)) entrantsRankedUptoCard
end Rows
end Go.Proofs.YtbckadmdebkogaaGreatDoor
