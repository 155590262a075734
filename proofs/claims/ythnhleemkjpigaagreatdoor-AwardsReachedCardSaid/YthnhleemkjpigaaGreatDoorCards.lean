/-
  DERIVED. GIVEN WITH THE SEED: THE CARDS: each row of YthnhleemkjpigaaGreatDoorRows.lean that lists a variable, with what it lists TIED to the program's text (the seventh form; the later family's looks); each row that meets fmt, with fmt's text TOLD by the authors' own Lean function (tested against real Go, not proved from fmt's source: count such statements apart). THE CARD IS WHAT COUNTS. Prove the row's statement (the work); the ties are given (YthnhleemkjpigaaGreatDoorTie.lean); close each card by the builder's one call (the guide's Derived/Test/ToyasCard.lean, 'card_holds'). Laid BY PROGRAM, IN A SANDBOX (cutbox-door.mjs). By AI agents, Wed Nov 11 2026. No macro, syntax, notation, axiom, sorry.
-/
import Derived.Test.YthnhleemkjpigaaGreatDoorRows
import GoSem.ClaimSeven
namespace Go.Proofs.YthnhleemkjpigaaGreatDoor
namespace Rows

/-- THE TIED CARD OF 'pilekeep2.LogsStay'. -/
def logsStayCard : Claim7 := { stood := { row := logsStayRow, standIns := [], harness := (true, "20b3b9bac6bd2f46df80af48f7459d951cc4bbc53917a483e47da6dfd57536be"), looks := false }, kinds := [], alts := [], laidByText := true, laidKinds := [.data, .pinned], laidTests := true, laidLooks := .later }
def LogsStayCardSaid : Prop := Claim7.holds Tryz.pinned (.plain (OpenSpec.ofChange logsStaySpec)) logsStayCard

/-- THE TIED CARD OF 'pilelaw2.CardsConfirm'. -/
def cardsConfirmCard : Claim7 := { stood := { row := cardsConfirmRow, standIns := [], harness := (true, "20b3b9bac6bd2f46df80af48f7459d951cc4bbc53917a483e47da6dfd57536be"), looks := false }, kinds := [], alts := [], laidByText := true, laidKinds := [.data, .pinned], laidTests := true, laidLooks := .later }
def CardsConfirmCardSaid : Prop := Claim7.holds Tryz.pinned (.plain (OpenSpec.ofChange cardsConfirmSpec)) cardsConfirmCard

/-- THE TIED CARD OF 'pilekeep2.CardsAgree'. -/
def cardsAgreeCard : Claim7 := { stood := { row := cardsAgreeRow, standIns := [], harness := (true, "20b3b9bac6bd2f46df80af48f7459d951cc4bbc53917a483e47da6dfd57536be"), looks := false }, kinds := [], alts := [], laidByText := true, laidKinds := [.data, .pinned], laidTests := true, laidLooks := .later }
def CardsAgreeCardSaid : Prop := Claim7.holds Tryz.pinned (.plain (OpenSpec.ofChange cardsAgreeSpec)) cardsAgreeCard

/-- THE TIED CARD OF 'pilelaw2.AwardsReached'. -/
def awardsReachedCard : Claim7 := { stood := { row := awardsReachedRow, standIns := [], harness := (true, "20b3b9bac6bd2f46df80af48f7459d951cc4bbc53917a483e47da6dfd57536be"), looks := false }, kinds := [], alts := [], laidByText := true, laidKinds := [.data, .data, .data, .data, .pinned], laidTests := true, laidLooks := .later }
def AwardsReachedCardSaid : Prop := Claim7.holds Tryz.pinned (.plain (OpenSpec.ofChange awardsReachedSpec)) awardsReachedCard

/-- THE TIED CARD OF 'pilekeep2.AwardsStay'. -/
def awardsStayCard : Claim7 := { stood := { row := awardsStayRow, standIns := [], harness := (true, "20b3b9bac6bd2f46df80af48f7459d951cc4bbc53917a483e47da6dfd57536be"), looks := false }, kinds := [], alts := [], laidByText := true, laidKinds := [.data, .data, .data, .data, .pinned], laidTests := true, laidLooks := .later }
def AwardsStayCardSaid : Prop := Claim7.holds Tryz.pinned (.plain (OpenSpec.ofChange awardsStaySpec)) awardsStayCard

/-- THE SECOND FORM's CARD OF 'pilekeep2.LogsStay'. -/
def logsStayUptoCard : Claim7 := { stood := { row := logsStayUptoRow, standIns := [], harness := (true, "20b3b9bac6bd2f46df80af48f7459d951cc4bbc53917a483e47da6dfd57536be"), looks := false }, kinds := [], alts := [], laidByText := true, laidKinds := [.data, .pinned], laidTests := true, laidLooks := .later }
def LogsStayUptoCardSaid : Prop := Claim7.holds Tryz.pinned (.plain (OpenSpec.upto logsStaySpec)) logsStayUptoCard

/-- THE SECOND FORM's CARD OF 'pilelaw2.CardsConfirm'. -/
def cardsConfirmUptoCard : Claim7 := { stood := { row := cardsConfirmUptoRow, standIns := [], harness := (true, "20b3b9bac6bd2f46df80af48f7459d951cc4bbc53917a483e47da6dfd57536be"), looks := false }, kinds := [], alts := [], laidByText := true, laidKinds := [.data, .pinned], laidTests := true, laidLooks := .later }
def CardsConfirmUptoCardSaid : Prop := Claim7.holds Tryz.pinned (.plain (OpenSpec.upto cardsConfirmSpec)) cardsConfirmUptoCard

/-- THE SECOND FORM's CARD OF 'pilekeep2.CardsAgree'. -/
def cardsAgreeUptoCard : Claim7 := { stood := { row := cardsAgreeUptoRow, standIns := [], harness := (true, "20b3b9bac6bd2f46df80af48f7459d951cc4bbc53917a483e47da6dfd57536be"), looks := false }, kinds := [], alts := [], laidByText := true, laidKinds := [.data, .pinned], laidTests := true, laidLooks := .later }
def CardsAgreeUptoCardSaid : Prop := Claim7.holds Tryz.pinned (.plain (OpenSpec.upto cardsAgreeSpec)) cardsAgreeUptoCard

/-- THE SECOND FORM's CARD OF 'pilelaw2.AwardsReached'. -/
def awardsReachedUptoCard : Claim7 := { stood := { row := awardsReachedUptoRow, standIns := [], harness := (true, "20b3b9bac6bd2f46df80af48f7459d951cc4bbc53917a483e47da6dfd57536be"), looks := false }, kinds := [], alts := [], laidByText := true, laidKinds := [.data, .data, .data, .data, .pinned], laidTests := true, laidLooks := .later }
def AwardsReachedUptoCardSaid : Prop := Claim7.holds Tryz.pinned (.plain (OpenSpec.upto awardsReachedSpec)) awardsReachedUptoCard

/-- THE SECOND FORM's CARD OF 'pilekeep2.AwardsStay'. -/
def awardsStayUptoCard : Claim7 := { stood := { row := awardsStayUptoRow, standIns := [], harness := (true, "20b3b9bac6bd2f46df80af48f7459d951cc4bbc53917a483e47da6dfd57536be"), looks := false }, kinds := [], alts := [], laidByText := true, laidKinds := [.data, .data, .data, .data, .pinned], laidTests := true, laidLooks := .later }
def AwardsStayUptoCardSaid : Prop := Claim7.holds Tryz.pinned (.plain (OpenSpec.upto awardsStaySpec)) awardsStayUptoCard
end Rows
end Go.Proofs.YthnhleemkjpigaaGreatDoor
