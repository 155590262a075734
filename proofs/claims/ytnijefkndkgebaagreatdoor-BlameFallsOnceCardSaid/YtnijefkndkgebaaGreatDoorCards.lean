/-
  DERIVED. GIVEN WITH THE SEED: THE CARDS: each row of YtnijefkndkgebaaGreatDoorRows.lean that lists a variable, with what it lists TIED to the program's text (the seventh form; the later family's looks); each row that meets fmt, with fmt's text TOLD by the authors' own Lean function (tested against real Go, not proved from fmt's source: count such statements apart). THE CARD IS WHAT COUNTS. Prove the row's statement (the work); the ties are given (YtnijefkndkgebaaGreatDoorTie.lean); close each card by the builder's one call (the guide's Derived/Test/ToyasCard.lean, 'card_holds'). Laid BY PROGRAM, IN A SANDBOX (cutbox-door.mjs). By AI agents, Wed Nov 11 2026. No macro, syntax, notation, axiom, sorry.
-/
import Derived.Test.YtnijefkndkgebaaGreatDoorRows
import GoSem.ClaimSeven
namespace Go.Proofs.YtnijefkndkgebaaGreatDoor
namespace Rows

/-- THE TIED CARD OF 'pilekeep2.FindingsCoverLogs'. -/
def findingsCoverLogsCard : Claim7 := { stood := { row := findingsCoverLogsRow, standIns := [], harness := (true, "d32e238c8ce4b93269af8b38f09fc9ee7ab3aaaaec788e049c98f2c7c346a445"), looks := false }, kinds := [], alts := [], laidByText := true, laidKinds := [.data, .pinned], laidTests := true, laidLooks := .later }
def FindingsCoverLogsCardSaid : Prop := Claim7.holds Tryz.pinned (.plain (OpenSpec.ofChange findingsCoverLogsSpec)) findingsCoverLogsCard

/-- THE TIED CARD OF 'pilekeep2.ChecksStay'. -/
def checksStayCard : Claim7 := { stood := { row := checksStayRow, standIns := [], harness := (true, "d32e238c8ce4b93269af8b38f09fc9ee7ab3aaaaec788e049c98f2c7c346a445"), looks := false }, kinds := [], alts := [], laidByText := true, laidKinds := [.data, .pinned], laidTests := true, laidLooks := .later }
def ChecksStayCardSaid : Prop := Claim7.holds Tryz.pinned (.plain (OpenSpec.ofChange checksStaySpec)) checksStayCard

/-- THE TIED CARD OF 'pilekeep2.BlameFallsOnce'. -/
def blameFallsOnceCard : Claim7 := { stood := { row := blameFallsOnceRow, standIns := [], harness := (true, "d32e238c8ce4b93269af8b38f09fc9ee7ab3aaaaec788e049c98f2c7c346a445"), looks := false }, kinds := [], alts := [], laidByText := true, laidKinds := [.data, .data, .data, .data, .pinned], laidTests := true, laidLooks := .later }
def BlameFallsOnceCardSaid : Prop := Claim7.holds Tryz.pinned (.plain (OpenSpec.ofChange blameFallsOnceSpec)) blameFallsOnceCard

/-- THE SECOND FORM's CARD OF 'pilekeep2.FindingsCoverLogs'. -/
def findingsCoverLogsUptoCard : Claim7 := { stood := { row := findingsCoverLogsUptoRow, standIns := [], harness := (true, "d32e238c8ce4b93269af8b38f09fc9ee7ab3aaaaec788e049c98f2c7c346a445"), looks := false }, kinds := [], alts := [], laidByText := true, laidKinds := [.data, .pinned], laidTests := true, laidLooks := .later }
def FindingsCoverLogsUptoCardSaid : Prop := Claim7.holds Tryz.pinned (.plain (OpenSpec.upto findingsCoverLogsSpec)) findingsCoverLogsUptoCard

/-- THE SECOND FORM's CARD OF 'pilekeep2.ChecksStay'. -/
def checksStayUptoCard : Claim7 := { stood := { row := checksStayUptoRow, standIns := [], harness := (true, "d32e238c8ce4b93269af8b38f09fc9ee7ab3aaaaec788e049c98f2c7c346a445"), looks := false }, kinds := [], alts := [], laidByText := true, laidKinds := [.data, .pinned], laidTests := true, laidLooks := .later }
def ChecksStayUptoCardSaid : Prop := Claim7.holds Tryz.pinned (.plain (OpenSpec.upto checksStaySpec)) checksStayUptoCard

/-- THE SECOND FORM's CARD OF 'pilekeep2.BlameFallsOnce'. -/
def blameFallsOnceUptoCard : Claim7 := { stood := { row := blameFallsOnceUptoRow, standIns := [], harness := (true, "d32e238c8ce4b93269af8b38f09fc9ee7ab3aaaaec788e049c98f2c7c346a445"), looks := false }, kinds := [], alts := [], laidByText := true, laidKinds := [.data, .data, .data, .data, .pinned], laidTests := true, laidLooks := .later }
def BlameFallsOnceUptoCardSaid : Prop := Claim7.holds Tryz.pinned (.plain (OpenSpec.upto blameFallsOnceSpec)) blameFallsOnceUptoCard
end Rows
end Go.Proofs.YtnijefkndkgebaaGreatDoor
