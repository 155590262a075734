/-
  DERIVED. GIVEN WITH THE SEED: THE CARDS: each row of YtpfhjchbegdgdaaGreatDoorRows.lean that lists a variable, with what it lists TIED to the program's text (the seventh form; the later family's looks); each row that meets fmt, with fmt's text TOLD by the authors' own Lean function (tested against real Go, not proved from fmt's source: count such statements apart). THE CARD IS WHAT COUNTS. Prove the row's statement (the work); the ties are given (YtpfhjchbegdgdaaGreatDoorTie.lean); close each card by the builder's one call (the guide's Derived/Test/ToyasCard.lean, 'card_holds'). Laid BY PROGRAM, IN A SANDBOX (cutbox-door.mjs). By AI agents, Wed Nov 11 2026. No macro, syntax, notation, axiom, sorry.
-/
import Derived.Test.YtpfhjchbegdgdaaGreatDoorRows
import GoSem.ClaimSeven
namespace Go.Proofs.YtpfhjchbegdgdaaGreatDoor
namespace Rows

/-- THE TIED CARD OF 'pilelaw2.LogsCounted'. -/
def logsCountedCard : Claim7 := { stood := { row := logsCountedRow, standIns := [], harness := (true, "84deda9c12d7de6b70208ad04f70386e8c896e65baa377cafdba8e74ed2f5c7d"), looks := true }, kinds := [], alts := [], laidByText := true, laidKinds := [.data, .pinned], laidTests := true, laidLooks := .later }
def LogsCountedCardSaid : Prop := Claim7.holds Tryz.pinned (.plain (OpenSpec.ofChange logsCountedSpec)) logsCountedCard

/-- THE TIED CARD OF 'pilelaw2.LogsMerge'. -/
def logsMergeCard : Claim7 := { stood := { row := logsMergeRow, standIns := [], harness := (true, "84deda9c12d7de6b70208ad04f70386e8c896e65baa377cafdba8e74ed2f5c7d"), looks := true }, kinds := [], alts := [], laidByText := true, laidKinds := [.data, .pinned], laidTests := true, laidLooks := .later }
def LogsMergeCardSaid : Prop := Claim7.holds Tryz.pinned (.plain (OpenSpec.ofChange logsMergeSpec)) logsMergeCard

/-- THE TIED CARD OF 'pilelaw2.LogsChanged'. -/
def logsChangedCard : Claim7 := { stood := { row := logsChangedRow, standIns := [], harness := (true, "84deda9c12d7de6b70208ad04f70386e8c896e65baa377cafdba8e74ed2f5c7d"), looks := true }, kinds := [], alts := [], laidByText := true, laidKinds := [.data, .pinned], laidTests := true, laidLooks := .later }
def LogsChangedCardSaid : Prop := Claim7.holds Tryz.pinned (.plain (OpenSpec.ofChange logsChangedSpec)) logsChangedCard

/-- THE TIED CARD OF 'pilekeep2.PausesAreEmpty'. -/
def pausesAreEmptyCard : Claim7 := { stood := { row := pausesAreEmptyRow, standIns := [], harness := (true, "84deda9c12d7de6b70208ad04f70386e8c896e65baa377cafdba8e74ed2f5c7d"), looks := true }, kinds := [], alts := [], laidByText := true, laidKinds := [.data, .pinned], laidTests := true, laidLooks := .later }
def PausesAreEmptyCardSaid : Prop := Claim7.holds Tryz.pinned (.plain (OpenSpec.ofChange pausesAreEmptySpec)) pausesAreEmptyCard

/-- THE TIED CARD OF 'pilekeep2.NumbersAddUp'. -/
def numbersAddUpCard : Claim7 := { stood := { row := numbersAddUpRow, standIns := [], harness := (true, "84deda9c12d7de6b70208ad04f70386e8c896e65baa377cafdba8e74ed2f5c7d"), looks := true }, kinds := [], alts := [], laidByText := true, laidKinds := [.data, .pinned], laidTests := true, laidLooks := .later }
def NumbersAddUpCardSaid : Prop := Claim7.holds Tryz.pinned (.plain (OpenSpec.ofChange numbersAddUpSpec)) numbersAddUpCard

/-- THE TIED CARD OF 'pilekeep2.ChangesCanGoBack'. -/
def changesCanGoBackCard : Claim7 := { stood := { row := changesCanGoBackRow, standIns := [], harness := (true, "84deda9c12d7de6b70208ad04f70386e8c896e65baa377cafdba8e74ed2f5c7d"), looks := true }, kinds := [], alts := [], laidByText := true, laidKinds := [.data, .pinned], laidTests := true, laidLooks := .later }
def ChangesCanGoBackCardSaid : Prop := Claim7.holds Tryz.pinned (.plain (OpenSpec.ofChange changesCanGoBackSpec)) changesCanGoBackCard

/-- THE TIED CARD OF 'pilelaw2.LogTexts'. -/
def logTextsCard : Claim7 := { stood := { row := logTextsRow, standIns := [], harness := (true, "84deda9c12d7de6b70208ad04f70386e8c896e65baa377cafdba8e74ed2f5c7d"), looks := true }, kinds := [], alts := [], laidByText := true, laidKinds := [.data, .data, .data, .data, .sentinel, .sentinel, .pinned], laidTests := true, laidLooks := .later }
def LogTextsCardSaid : Prop := Claim7.holds Tryz.pinned (.plain (OpenSpec.ofChange logTextsSpec)) logTextsCard

/-- THE TIED CARD OF 'pilekeep2.LogsStay'. -/
def logsStayCard : Claim7 := { stood := { row := logsStayRow, standIns := [], harness := (true, "84deda9c12d7de6b70208ad04f70386e8c896e65baa377cafdba8e74ed2f5c7d"), looks := true }, kinds := [], alts := [], laidByText := true, laidKinds := [.data, .pinned], laidTests := true, laidLooks := .later }
def LogsStayCardSaid : Prop := Claim7.holds Tryz.pinned (.plain (OpenSpec.ofChange logsStaySpec)) logsStayCard

/-- THE TIED CARD OF 'pilekeep2.LogsAreOne'. -/
def logsAreOneCard : Claim7 := { stood := { row := logsAreOneRow, standIns := [], harness := (true, "84deda9c12d7de6b70208ad04f70386e8c896e65baa377cafdba8e74ed2f5c7d"), looks := true }, kinds := [], alts := [], laidByText := true, laidKinds := [.data, .data, .data, .data, .sentinel, .sentinel, .pinned], laidTests := true, laidLooks := .later }
def LogsAreOneCardSaid : Prop := Claim7.holds Tryz.pinned (.plain (OpenSpec.ofChange logsAreOneSpec)) logsAreOneCard

/-- THE TIED CARD OF 'pilelaw2.LogsTravel'. -/
def logsTravelCard : Claim7 := { stood := { row := logsTravelRow, standIns := [], harness := (true, "84deda9c12d7de6b70208ad04f70386e8c896e65baa377cafdba8e74ed2f5c7d"), looks := true }, kinds := [], alts := [], laidByText := true, laidKinds := [.data, .data, .data, .data, .sentinel, .sentinel, .pinned], laidTests := true, laidLooks := .later }
def LogsTravelCardSaid : Prop := Claim7.holds Tryz.pinned (.plain (OpenSpec.ofChange logsTravelSpec)) logsTravelCard

/-- THE TIED CARD OF 'pilekeep2.TravelKeepsSeconds'. -/
def travelKeepsSecondsCard : Claim7 := { stood := { row := travelKeepsSecondsRow, standIns := [], harness := (true, "84deda9c12d7de6b70208ad04f70386e8c896e65baa377cafdba8e74ed2f5c7d"), looks := true }, kinds := [], alts := [], laidByText := true, laidKinds := [.data, .data, .data, .data, .sentinel, .sentinel, .pinned], laidTests := true, laidLooks := .later }
def TravelKeepsSecondsCardSaid : Prop := Claim7.holds Tryz.pinned (.plain (OpenSpec.ofChange travelKeepsSecondsSpec)) travelKeepsSecondsCard

/-- THE SECOND FORM's CARD OF 'pilelaw2.LogsCounted'. -/
def logsCountedUptoCard : Claim7 := { stood := { row := logsCountedUptoRow, standIns := [], harness := (true, "84deda9c12d7de6b70208ad04f70386e8c896e65baa377cafdba8e74ed2f5c7d"), looks := true }, kinds := [], alts := [], laidByText := true, laidKinds := [.data, .pinned], laidTests := true, laidLooks := .later }
def LogsCountedUptoCardSaid : Prop := Claim7.holds Tryz.pinned (.plain (OpenSpec.upto logsCountedSpec)) logsCountedUptoCard

/-- THE SECOND FORM's CARD OF 'pilelaw2.LogsMerge'. -/
def logsMergeUptoCard : Claim7 := { stood := { row := logsMergeUptoRow, standIns := [], harness := (true, "84deda9c12d7de6b70208ad04f70386e8c896e65baa377cafdba8e74ed2f5c7d"), looks := true }, kinds := [], alts := [], laidByText := true, laidKinds := [.data, .pinned], laidTests := true, laidLooks := .later }
def LogsMergeUptoCardSaid : Prop := Claim7.holds Tryz.pinned (.plain (OpenSpec.upto logsMergeSpec)) logsMergeUptoCard

/-- THE SECOND FORM's CARD OF 'pilelaw2.LogsChanged'. -/
def logsChangedUptoCard : Claim7 := { stood := { row := logsChangedUptoRow, standIns := [], harness := (true, "84deda9c12d7de6b70208ad04f70386e8c896e65baa377cafdba8e74ed2f5c7d"), looks := true }, kinds := [], alts := [], laidByText := true, laidKinds := [.data, .pinned], laidTests := true, laidLooks := .later }
def LogsChangedUptoCardSaid : Prop := Claim7.holds Tryz.pinned (.plain (OpenSpec.upto logsChangedSpec)) logsChangedUptoCard

/-- THE SECOND FORM's CARD OF 'pilekeep2.PausesAreEmpty'. -/
def pausesAreEmptyUptoCard : Claim7 := { stood := { row := pausesAreEmptyUptoRow, standIns := [], harness := (true, "84deda9c12d7de6b70208ad04f70386e8c896e65baa377cafdba8e74ed2f5c7d"), looks := true }, kinds := [], alts := [], laidByText := true, laidKinds := [.data, .pinned], laidTests := true, laidLooks := .later }
def PausesAreEmptyUptoCardSaid : Prop := Claim7.holds Tryz.pinned (.plain (OpenSpec.upto pausesAreEmptySpec)) pausesAreEmptyUptoCard

/-- THE SECOND FORM's CARD OF 'pilekeep2.NumbersAddUp'. -/
def numbersAddUpUptoCard : Claim7 := { stood := { row := numbersAddUpUptoRow, standIns := [], harness := (true, "84deda9c12d7de6b70208ad04f70386e8c896e65baa377cafdba8e74ed2f5c7d"), looks := true }, kinds := [], alts := [], laidByText := true, laidKinds := [.data, .pinned], laidTests := true, laidLooks := .later }
def NumbersAddUpUptoCardSaid : Prop := Claim7.holds Tryz.pinned (.plain (OpenSpec.upto numbersAddUpSpec)) numbersAddUpUptoCard

/-- THE SECOND FORM's CARD OF 'pilekeep2.ChangesCanGoBack'. -/
def changesCanGoBackUptoCard : Claim7 := { stood := { row := changesCanGoBackUptoRow, standIns := [], harness := (true, "84deda9c12d7de6b70208ad04f70386e8c896e65baa377cafdba8e74ed2f5c7d"), looks := true }, kinds := [], alts := [], laidByText := true, laidKinds := [.data, .pinned], laidTests := true, laidLooks := .later }
def ChangesCanGoBackUptoCardSaid : Prop := Claim7.holds Tryz.pinned (.plain (OpenSpec.upto changesCanGoBackSpec)) changesCanGoBackUptoCard

/-- THE SECOND FORM's CARD OF 'pilelaw2.LogTexts'. -/
def logTextsUptoCard : Claim7 := { stood := { row := logTextsUptoRow, standIns := [], harness := (true, "84deda9c12d7de6b70208ad04f70386e8c896e65baa377cafdba8e74ed2f5c7d"), looks := true }, kinds := [], alts := [], laidByText := true, laidKinds := [.data, .data, .data, .data, .sentinel, .sentinel, .pinned], laidTests := true, laidLooks := .later }
def LogTextsUptoCardSaid : Prop := Claim7.holds Tryz.pinned (.plain (OpenSpec.upto logTextsSpec)) logTextsUptoCard

/-- THE SECOND FORM's CARD OF 'pilekeep2.LogsStay'. -/
def logsStayUptoCard : Claim7 := { stood := { row := logsStayUptoRow, standIns := [], harness := (true, "84deda9c12d7de6b70208ad04f70386e8c896e65baa377cafdba8e74ed2f5c7d"), looks := true }, kinds := [], alts := [], laidByText := true, laidKinds := [.data, .pinned], laidTests := true, laidLooks := .later }
def LogsStayUptoCardSaid : Prop := Claim7.holds Tryz.pinned (.plain (OpenSpec.upto logsStaySpec)) logsStayUptoCard

/-- THE SECOND FORM's CARD OF 'pilekeep2.LogsAreOne'. -/
def logsAreOneUptoCard : Claim7 := { stood := { row := logsAreOneUptoRow, standIns := [], harness := (true, "84deda9c12d7de6b70208ad04f70386e8c896e65baa377cafdba8e74ed2f5c7d"), looks := true }, kinds := [], alts := [], laidByText := true, laidKinds := [.data, .data, .data, .data, .sentinel, .sentinel, .pinned], laidTests := true, laidLooks := .later }
def LogsAreOneUptoCardSaid : Prop := Claim7.holds Tryz.pinned (.plain (OpenSpec.upto logsAreOneSpec)) logsAreOneUptoCard

/-- THE SECOND FORM's CARD OF 'pilelaw2.LogsTravel'. -/
def logsTravelUptoCard : Claim7 := { stood := { row := logsTravelUptoRow, standIns := [], harness := (true, "84deda9c12d7de6b70208ad04f70386e8c896e65baa377cafdba8e74ed2f5c7d"), looks := true }, kinds := [], alts := [], laidByText := true, laidKinds := [.data, .data, .data, .data, .sentinel, .sentinel, .pinned], laidTests := true, laidLooks := .later }
def LogsTravelUptoCardSaid : Prop := Claim7.holds Tryz.pinned (.plain (OpenSpec.upto logsTravelSpec)) logsTravelUptoCard

/-- THE SECOND FORM's CARD OF 'pilekeep2.TravelKeepsSeconds'. -/
def travelKeepsSecondsUptoCard : Claim7 := { stood := { row := travelKeepsSecondsUptoRow, standIns := [], harness := (true, "84deda9c12d7de6b70208ad04f70386e8c896e65baa377cafdba8e74ed2f5c7d"), looks := true }, kinds := [], alts := [], laidByText := true, laidKinds := [.data, .data, .data, .data, .sentinel, .sentinel, .pinned], laidTests := true, laidLooks := .later }
def TravelKeepsSecondsUptoCardSaid : Prop := Claim7.holds Tryz.pinned (.plain (OpenSpec.upto travelKeepsSecondsSpec)) travelKeepsSecondsUptoCard
end Rows
end Go.Proofs.YtpfhjchbegdgdaaGreatDoor
