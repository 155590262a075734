/-
  DERIVED. GIVEN WITH THE SEED: THE CARDS: each row of YthjhjbgilbaknaaGreatDoorRows.lean that lists a variable, with what it lists TIED to the program's text (the seventh form; the later family's looks); each row that meets fmt, with fmt's text TOLD by the authors' own Lean function (tested against real Go, not proved from fmt's source: count such statements apart). THE CARD IS WHAT COUNTS. Prove the row's statement (the work); the ties are given (YthjhjbgilbaknaaGreatDoorTie.lean); close each card by the builder's one call (the guide's Derived/Test/ToyasCard.lean, 'card_holds'). Laid BY PROGRAM, IN A SANDBOX (cutbox-door.mjs). By AI agents, Wed Nov 11 2026. No macro, syntax, notation, axiom, sorry.
-/
import Derived.Test.YthjhjbgilbaknaaGreatDoorRows
import GoSem.ClaimSeven
namespace Go.Proofs.YthjhjbgilbaknaaGreatDoor
namespace Rows

/-- THE TIED CARD OF 'pilelaw2.SpotsHeard'. -/
def spotsHeardCard : Claim7 := { stood := { row := spotsHeardRow, standIns := [], harness := (true, "228f3384cfe63186613678d7ae7ac0a5700fbac0b998f4c697bc88a402d12d8d"), looks := false }, kinds := [], alts := [], laidByText := true, laidKinds := [.data, .data, .data, .data, .pinned], laidTests := true, laidLooks := .later }
def SpotsHeardCardSaid : Prop := Claim7.holds Tryz.pinned (.plain (OpenSpec.ofChange spotsHeardSpec)) spotsHeardCard

/-- THE TIED CARD OF 'pilelaw2.SpotsWorth'. -/
def spotsWorthCard : Claim7 := { stood := { row := spotsWorthRow, standIns := [], harness := (true, "228f3384cfe63186613678d7ae7ac0a5700fbac0b998f4c697bc88a402d12d8d"), looks := false }, kinds := [], alts := [], laidByText := true, laidKinds := [.data, .pinned], laidTests := true, laidLooks := .later }
def SpotsWorthCardSaid : Prop := Claim7.holds Tryz.pinned (.plain (OpenSpec.ofChange spotsWorthSpec)) spotsWorthCard

/-- THE TIED CARD OF 'pilekeep2.SpotsOnce'. -/
def spotsOnceCard : Claim7 := { stood := { row := spotsOnceRow, standIns := [], harness := (true, "228f3384cfe63186613678d7ae7ac0a5700fbac0b998f4c697bc88a402d12d8d"), looks := false }, kinds := [], alts := [], laidByText := true, laidKinds := [.data, .data, .data, .data, .pinned], laidTests := true, laidLooks := .later }
def SpotsOnceCardSaid : Prop := Claim7.holds Tryz.pinned (.plain (OpenSpec.ofChange spotsOnceSpec)) spotsOnceCard

/-- THE TIED CARD OF 'pilekeep2.BandsStay'. -/
def bandsStayCard : Claim7 := { stood := { row := bandsStayRow, standIns := [], harness := (true, "228f3384cfe63186613678d7ae7ac0a5700fbac0b998f4c697bc88a402d12d8d"), looks := false }, kinds := [], alts := [], laidByText := true, laidKinds := [.data, .pinned], laidTests := true, laidLooks := .later }
def BandsStayCardSaid : Prop := Claim7.holds Tryz.pinned (.plain (OpenSpec.ofChange bandsStaySpec)) bandsStayCard

/-- THE TIED CARD OF 'piletop.TopWorthIsNew'. -/
def topWorthIsNewCard : Claim7 := { stood := { row := topWorthIsNewRow, standIns := [], harness := (true, "228f3384cfe63186613678d7ae7ac0a5700fbac0b998f4c697bc88a402d12d8d"), looks := false }, kinds := [], alts := [], laidByText := true, laidKinds := [.data, .pinned], laidTests := true, laidLooks := .later }
def TopWorthIsNewCardSaid : Prop := Claim7.holds Tryz.pinned (.plain (OpenSpec.ofChange topWorthIsNewSpec)) topWorthIsNewCard

/-- THE SECOND FORM's CARD OF 'pilelaw2.SpotsHeard'. -/
def spotsHeardUptoCard : Claim7 := { stood := { row := spotsHeardUptoRow, standIns := [], harness := (true, "228f3384cfe63186613678d7ae7ac0a5700fbac0b998f4c697bc88a402d12d8d"), looks := false }, kinds := [], alts := [], laidByText := true, laidKinds := [.data, .data, .data, .data, .pinned], laidTests := true, laidLooks := .later }
def SpotsHeardUptoCardSaid : Prop := Claim7.holds Tryz.pinned (.plain (OpenSpec.upto spotsHeardSpec)) spotsHeardUptoCard

/-- THE SECOND FORM's CARD OF 'pilelaw2.SpotsWorth'. -/
def spotsWorthUptoCard : Claim7 := { stood := { row := spotsWorthUptoRow, standIns := [], harness := (true, "228f3384cfe63186613678d7ae7ac0a5700fbac0b998f4c697bc88a402d12d8d"), looks := false }, kinds := [], alts := [], laidByText := true, laidKinds := [.data, .pinned], laidTests := true, laidLooks := .later }
def SpotsWorthUptoCardSaid : Prop := Claim7.holds Tryz.pinned (.plain (OpenSpec.upto spotsWorthSpec)) spotsWorthUptoCard

/-- THE SECOND FORM's CARD OF 'pilekeep2.SpotsOnce'. -/
def spotsOnceUptoCard : Claim7 := { stood := { row := spotsOnceUptoRow, standIns := [], harness := (true, "228f3384cfe63186613678d7ae7ac0a5700fbac0b998f4c697bc88a402d12d8d"), looks := false }, kinds := [], alts := [], laidByText := true, laidKinds := [.data, .data, .data, .data, .pinned], laidTests := true, laidLooks := .later }
def SpotsOnceUptoCardSaid : Prop := Claim7.holds Tryz.pinned (.plain (OpenSpec.upto spotsOnceSpec)) spotsOnceUptoCard

/-- THE SECOND FORM's CARD OF 'pilekeep2.BandsStay'. -/
def bandsStayUptoCard : Claim7 := { stood := { row := bandsStayUptoRow, standIns := [], harness := (true, "228f3384cfe63186613678d7ae7ac0a5700fbac0b998f4c697bc88a402d12d8d"), looks := false }, kinds := [], alts := [], laidByText := true, laidKinds := [.data, .pinned], laidTests := true, laidLooks := .later }
def BandsStayUptoCardSaid : Prop := Claim7.holds Tryz.pinned (.plain (OpenSpec.upto bandsStaySpec)) bandsStayUptoCard

/-- THE SECOND FORM's CARD OF 'piletop.TopWorthIsNew'. -/
def topWorthIsNewUptoCard : Claim7 := { stood := { row := topWorthIsNewUptoRow, standIns := [], harness := (true, "228f3384cfe63186613678d7ae7ac0a5700fbac0b998f4c697bc88a402d12d8d"), looks := false }, kinds := [], alts := [], laidByText := true, laidKinds := [.data, .pinned], laidTests := true, laidLooks := .later }
def TopWorthIsNewUptoCardSaid : Prop := Claim7.holds Tryz.pinned (.plain (OpenSpec.upto topWorthIsNewSpec)) topWorthIsNewUptoCard
end Rows
end Go.Proofs.YthjhjbgilbaknaaGreatDoor
