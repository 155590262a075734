/-
  DERIVED. GIVEN WITH THE SEED: THE CARDS: each row of YtmgdncpkhfgooaaGreatDoorRows.lean that lists a variable, with what it lists TIED to the program's text (the seventh form; the later family's looks); each row that meets fmt, with fmt's text TOLD by the authors' own Lean function (tested against real Go, not proved from fmt's source: count such statements apart). THE CARD IS WHAT COUNTS. Prove the row's statement (the work); the ties are given (YtmgdncpkhfgooaaGreatDoorTie.lean); close each card by the builder's one call (the guide's Derived/Test/ToyasCard.lean, 'card_holds'). Laid BY PROGRAM, IN A SANDBOX (cutbox-door.mjs). By AI agents, Wed Nov 11 2026. No macro, syntax, notation, axiom, sorry.
-/
import Derived.Test.YtmgdncpkhfgooaaGreatDoorRows
import GoSem.ClaimSeven
namespace Go.Proofs.YtmgdncpkhfgooaaGreatDoor
namespace Rows

/-- THE TIED CARD OF 'pilekeep2.TablesAreFair'. -/
def tablesAreFairCard : Claim7 := { stood := { row := tablesAreFairRow, standIns := [], harness := (true, "0e38197de5c54c515e1fb7d3a572fccf23ae831e87454f10cfb10b0b14bc31ae"), looks := false }, kinds := [], alts := [], laidByText := true, laidKinds := [.data, .pinned], laidTests := true, laidLooks := .later }
def TablesAreFairCardSaid : Prop := Claim7.holds Tryz.pinned (.plain (OpenSpec.ofChange tablesAreFairSpec)) tablesAreFairCard

/-- THE TIED CARD OF 'pilekeep2.FreeIsPermitted'. -/
def freeIsPermittedCard : Claim7 := { stood := { row := freeIsPermittedRow, standIns := [], harness := (true, "0e38197de5c54c515e1fb7d3a572fccf23ae831e87454f10cfb10b0b14bc31ae"), looks := false }, kinds := [], alts := [], laidByText := true, laidKinds := [.data, .pinned], laidTests := true, laidLooks := .later }
def FreeIsPermittedCardSaid : Prop := Claim7.holds Tryz.pinned (.plain (OpenSpec.ofChange freeIsPermittedSpec)) freeIsPermittedCard

/-- THE TIED CARD OF 'pilelaw2.SegmentsPermit'. -/
def segmentsPermitCard : Claim7 := { stood := { row := segmentsPermitRow, standIns := [], harness := (true, "0e38197de5c54c515e1fb7d3a572fccf23ae831e87454f10cfb10b0b14bc31ae"), looks := false }, kinds := [], alts := [], laidByText := true, laidKinds := [.data, .pinned], laidTests := true, laidLooks := .later }
def SegmentsPermitCardSaid : Prop := Claim7.holds Tryz.pinned (.plain (OpenSpec.ofChange segmentsPermitSpec)) segmentsPermitCard

/-- THE TIED CARD OF 'pilekeep2.WindowsPermit'. -/
def windowsPermitCard : Claim7 := { stood := { row := windowsPermitRow, standIns := [], harness := (true, "0e38197de5c54c515e1fb7d3a572fccf23ae831e87454f10cfb10b0b14bc31ae"), looks := false }, kinds := [], alts := [], laidByText := true, laidKinds := [.data, .pinned], laidTests := true, laidLooks := .later }
def WindowsPermitCardSaid : Prop := Claim7.holds Tryz.pinned (.plain (OpenSpec.ofChange windowsPermitSpec)) windowsPermitCard

/-- THE TIED CARD OF 'pilekeep2.LogsStay'. -/
def logsStayCard : Claim7 := { stood := { row := logsStayRow, standIns := [], harness := (true, "0e38197de5c54c515e1fb7d3a572fccf23ae831e87454f10cfb10b0b14bc31ae"), looks := false }, kinds := [], alts := [], laidByText := true, laidKinds := [.data, .pinned], laidTests := true, laidLooks := .later }
def LogsStayCardSaid : Prop := Claim7.holds Tryz.pinned (.plain (OpenSpec.ofChange logsStaySpec)) logsStayCard

/-- THE SECOND FORM's CARD OF 'pilekeep2.TablesAreFair'. -/
def tablesAreFairUptoCard : Claim7 := { stood := { row := tablesAreFairUptoRow, standIns := [], harness := (true, "0e38197de5c54c515e1fb7d3a572fccf23ae831e87454f10cfb10b0b14bc31ae"), looks := false }, kinds := [], alts := [], laidByText := true, laidKinds := [.data, .pinned], laidTests := true, laidLooks := .later }
def TablesAreFairUptoCardSaid : Prop := Claim7.holds Tryz.pinned (.plain (OpenSpec.upto tablesAreFairSpec)) tablesAreFairUptoCard

/-- THE SECOND FORM's CARD OF 'pilekeep2.FreeIsPermitted'. -/
def freeIsPermittedUptoCard : Claim7 := { stood := { row := freeIsPermittedUptoRow, standIns := [], harness := (true, "0e38197de5c54c515e1fb7d3a572fccf23ae831e87454f10cfb10b0b14bc31ae"), looks := false }, kinds := [], alts := [], laidByText := true, laidKinds := [.data, .pinned], laidTests := true, laidLooks := .later }
def FreeIsPermittedUptoCardSaid : Prop := Claim7.holds Tryz.pinned (.plain (OpenSpec.upto freeIsPermittedSpec)) freeIsPermittedUptoCard

/-- THE SECOND FORM's CARD OF 'pilelaw2.SegmentsPermit'. -/
def segmentsPermitUptoCard : Claim7 := { stood := { row := segmentsPermitUptoRow, standIns := [], harness := (true, "0e38197de5c54c515e1fb7d3a572fccf23ae831e87454f10cfb10b0b14bc31ae"), looks := false }, kinds := [], alts := [], laidByText := true, laidKinds := [.data, .pinned], laidTests := true, laidLooks := .later }
def SegmentsPermitUptoCardSaid : Prop := Claim7.holds Tryz.pinned (.plain (OpenSpec.upto segmentsPermitSpec)) segmentsPermitUptoCard

/-- THE SECOND FORM's CARD OF 'pilekeep2.WindowsPermit'. -/
def windowsPermitUptoCard : Claim7 := { stood := { row := windowsPermitUptoRow, standIns := [], harness := (true, "0e38197de5c54c515e1fb7d3a572fccf23ae831e87454f10cfb10b0b14bc31ae"), looks := false }, kinds := [], alts := [], laidByText := true, laidKinds := [.data, .pinned], laidTests := true, laidLooks := .later }
def WindowsPermitUptoCardSaid : Prop := Claim7.holds Tryz.pinned (.plain (OpenSpec.upto windowsPermitSpec)) windowsPermitUptoCard

/-- THE SECOND FORM's CARD OF 'pilekeep2.LogsStay'. -/
def logsStayUptoCard : Claim7 := { stood := { row := logsStayUptoRow, standIns := [], harness := (true, "0e38197de5c54c515e1fb7d3a572fccf23ae831e87454f10cfb10b0b14bc31ae"), looks := false }, kinds := [], alts := [], laidByText := true, laidKinds := [.data, .pinned], laidTests := true, laidLooks := .later }
def LogsStayUptoCardSaid : Prop := Claim7.holds Tryz.pinned (.plain (OpenSpec.upto logsStaySpec)) logsStayUptoCard
end Rows
end Go.Proofs.YtmgdncpkhfgooaaGreatDoor
