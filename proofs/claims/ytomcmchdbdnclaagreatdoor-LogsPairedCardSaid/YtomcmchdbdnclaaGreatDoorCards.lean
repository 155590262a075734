/-
  DERIVED. GIVEN WITH THE SEED: THE CARDS: each row of YtomcmchdbdnclaaGreatDoorRows.lean that lists a variable, with what it lists TIED to the program's text (the seventh form; the later family's looks); each row that meets fmt, with fmt's text TOLD by the authors' own Lean function (tested against real Go, not proved from fmt's source: count such statements apart). THE CARD IS WHAT COUNTS. Prove the row's statement (the work); the ties are given (YtomcmchdbdnclaaGreatDoorTie.lean); close each card by the builder's one call (the guide's Derived/Test/ToyasCard.lean, 'card_holds'). Laid BY PROGRAM, IN A SANDBOX (cutbox-door.mjs). By AI agents, Wed Nov 11 2026. No macro, syntax, notation, axiom, sorry.
-/
import Derived.Test.YtomcmchdbdnclaaGreatDoorRows
import GoSem.ClaimSeven
namespace Go.Proofs.YtomcmchdbdnclaaGreatDoor
namespace Rows

/-- THE TIED CARD OF 'pilelaw2.LogsPaired'. -/
def logsPairedCard : Claim7 := { stood := { row := logsPairedRow, standIns := [], harness := (true, "027f505a59d7219f99e7d415580144769b98523eb2ba9966487830cbc8df570c"), looks := false }, kinds := [], alts := [], laidByText := true, laidKinds := [.data, .data, .data, .data, .pinned], laidTests := true, laidLooks := .later }
def LogsPairedCardSaid : Prop := Claim7.holds Tryz.pinned (.plain (OpenSpec.ofChange logsPairedSpec)) logsPairedCard

/-- THE SECOND FORM's CARD OF 'pilelaw2.LogsPaired'. -/
def logsPairedUptoCard : Claim7 := { stood := { row := logsPairedUptoRow, standIns := [], harness := (true, "027f505a59d7219f99e7d415580144769b98523eb2ba9966487830cbc8df570c"), looks := false }, kinds := [], alts := [], laidByText := true, laidKinds := [.data, .data, .data, .data, .pinned], laidTests := true, laidLooks := .later }
def LogsPairedUptoCardSaid : Prop := Claim7.holds Tryz.pinned (.plain (OpenSpec.upto logsPairedSpec)) logsPairedUptoCard
end Rows
end Go.Proofs.YtomcmchdbdnclaaGreatDoor
