/-
  DERIVED. GIVEN WITH THE SEED: THE CARDS: each row of YtkdippipiidcmaaGreatDoorRows.lean that lists a variable, with what it lists TIED to the program's text (the seventh form; the later family's looks); each row that meets fmt, with fmt's text TOLD by the authors' own Lean function (tested against real Go, not proved from fmt's source: count such statements apart). THE CARD IS WHAT COUNTS. Prove the row's statement (the work); the ties are given (YtkdippipiidcmaaGreatDoorTie.lean); close each card by the builder's one call (the guide's Derived/Test/ToyasCard.lean, 'card_holds'). Laid BY PROGRAM, IN A SANDBOX (cutbox-door.mjs). By AI agents, Wed Nov 11 2026. No macro, syntax, notation, axiom, sorry.
-/
import Derived.Test.YtkdippipiidcmaaGreatDoorRows
import GoSem.ClaimSeven
namespace Go.Proofs.YtkdippipiidcmaaGreatDoor
namespace Rows

/-- THE TIED CARD OF 'pilelaw2.DeedsMerge'. -/
def deedsMergeCard : Claim7 := { stood := { row := deedsMergeRow, standIns := [], harness := (true, "312b958637d41a883e8be5d795926ee13ce58f4285d38953e9825630cd61c13b"), looks := true }, kinds := [], alts := [], laidByText := true, laidKinds := [.data, .pinned], laidTests := true, laidLooks := .later }
def DeedsMergeCardSaid : Prop := Claim7.holds Tryz.pinned (.plain (OpenSpec.ofChange deedsMergeSpec)) deedsMergeCard

/-- THE TIED CARD OF 'pilelaw2.NetsLog'. -/
def netsLogCard : Claim7 := { stood := { row := netsLogRow, standIns := [], harness := (true, "312b958637d41a883e8be5d795926ee13ce58f4285d38953e9825630cd61c13b"), looks := true }, kinds := [], alts := [], laidByText := true, laidKinds := [.data, .pinned], laidTests := true, laidLooks := .later }
def NetsLogCardSaid : Prop := Claim7.holds Tryz.pinned (.plain (OpenSpec.ofChange netsLogSpec)) netsLogCard

/-- THE TIED CARD OF 'pilekeep2.NetsStay'. -/
def netsStayCard : Claim7 := { stood := { row := netsStayRow, standIns := [], harness := (true, "312b958637d41a883e8be5d795926ee13ce58f4285d38953e9825630cd61c13b"), looks := true }, kinds := [], alts := [], laidByText := true, laidKinds := [.data, .pinned], laidTests := true, laidLooks := .later }
def NetsStayCardSaid : Prop := Claim7.holds Tryz.pinned (.plain (OpenSpec.ofChange netsStaySpec)) netsStayCard

/-- THE TIED CARD OF 'pilekeep2.NetsHaveOneLog'. -/
def netsHaveOneLogCard : Claim7 := { stood := { row := netsHaveOneLogRow, standIns := [], harness := (true, "312b958637d41a883e8be5d795926ee13ce58f4285d38953e9825630cd61c13b"), looks := true }, kinds := [], alts := [], laidByText := true, laidKinds := [.data, .pinned], laidTests := true, laidLooks := .later }
def NetsHaveOneLogCardSaid : Prop := Claim7.holds Tryz.pinned (.plain (OpenSpec.ofChange netsHaveOneLogSpec)) netsHaveOneLogCard

/-- THE TIED CARD OF 'pilelaw2.DesksCompared'. -/
def desksComparedCard : Claim7 := { stood := { row := desksComparedRow, standIns := [], harness := (true, "312b958637d41a883e8be5d795926ee13ce58f4285d38953e9825630cd61c13b"), looks := true }, kinds := [], alts := [], laidByText := true, laidKinds := [.data, .data, .data, .data, .pinned], laidTests := true, laidLooks := .later }
def DesksComparedCardSaid : Prop := Claim7.holds Tryz.pinned (.plain (OpenSpec.ofChange desksComparedSpec)) desksComparedCard

/-- THE TIED CARD OF 'pilelaw2.NumbersGiven'. -/
def numbersGivenCard : Claim7 := { stood := { row := numbersGivenRow, standIns := [], harness := (true, "312b958637d41a883e8be5d795926ee13ce58f4285d38953e9825630cd61c13b"), looks := true }, kinds := [], alts := [], laidByText := true, laidKinds := [.data, .data, .data, .data, .pinned], laidTests := true, laidLooks := .later }
def NumbersGivenCardSaid : Prop := Claim7.holds Tryz.pinned (.plain (OpenSpec.ofChange numbersGivenSpec)) numbersGivenCard

/-- THE TIED CARD OF 'pilekeep2.NextClashesNever'. -/
def nextClashesNeverCard : Claim7 := { stood := { row := nextClashesNeverRow, standIns := [], harness := (true, "312b958637d41a883e8be5d795926ee13ce58f4285d38953e9825630cd61c13b"), looks := true }, kinds := [], alts := [], laidByText := true, laidKinds := [.data, .data, .data, .data, .pinned], laidTests := true, laidLooks := .later }
def NextClashesNeverCardSaid : Prop := Claim7.holds Tryz.pinned (.plain (OpenSpec.ofChange nextClashesNeverSpec)) nextClashesNeverCard

/-- THE SECOND FORM's CARD OF 'pilelaw2.DeedsMerge'. -/
def deedsMergeUptoCard : Claim7 := { stood := { row := deedsMergeUptoRow, standIns := [], harness := (true, "312b958637d41a883e8be5d795926ee13ce58f4285d38953e9825630cd61c13b"), looks := true }, kinds := [], alts := [], laidByText := true, laidKinds := [.data, .pinned], laidTests := true, laidLooks := .later }
def DeedsMergeUptoCardSaid : Prop := Claim7.holds Tryz.pinned (.plain (OpenSpec.upto deedsMergeSpec)) deedsMergeUptoCard

/-- THE SECOND FORM's CARD OF 'pilelaw2.NetsLog'. -/
def netsLogUptoCard : Claim7 := { stood := { row := netsLogUptoRow, standIns := [], harness := (true, "312b958637d41a883e8be5d795926ee13ce58f4285d38953e9825630cd61c13b"), looks := true }, kinds := [], alts := [], laidByText := true, laidKinds := [.data, .pinned], laidTests := true, laidLooks := .later }
def NetsLogUptoCardSaid : Prop := Claim7.holds Tryz.pinned (.plain (OpenSpec.upto netsLogSpec)) netsLogUptoCard

/-- THE SECOND FORM's CARD OF 'pilekeep2.NetsStay'. -/
def netsStayUptoCard : Claim7 := { stood := { row := netsStayUptoRow, standIns := [], harness := (true, "312b958637d41a883e8be5d795926ee13ce58f4285d38953e9825630cd61c13b"), looks := true }, kinds := [], alts := [], laidByText := true, laidKinds := [.data, .pinned], laidTests := true, laidLooks := .later }
def NetsStayUptoCardSaid : Prop := Claim7.holds Tryz.pinned (.plain (OpenSpec.upto netsStaySpec)) netsStayUptoCard

/-- THE SECOND FORM's CARD OF 'pilekeep2.NetsHaveOneLog'. -/
def netsHaveOneLogUptoCard : Claim7 := { stood := { row := netsHaveOneLogUptoRow, standIns := [], harness := (true, "312b958637d41a883e8be5d795926ee13ce58f4285d38953e9825630cd61c13b"), looks := true }, kinds := [], alts := [], laidByText := true, laidKinds := [.data, .pinned], laidTests := true, laidLooks := .later }
def NetsHaveOneLogUptoCardSaid : Prop := Claim7.holds Tryz.pinned (.plain (OpenSpec.upto netsHaveOneLogSpec)) netsHaveOneLogUptoCard

/-- THE SECOND FORM's CARD OF 'pilelaw2.DesksCompared'. -/
def desksComparedUptoCard : Claim7 := { stood := { row := desksComparedUptoRow, standIns := [], harness := (true, "312b958637d41a883e8be5d795926ee13ce58f4285d38953e9825630cd61c13b"), looks := true }, kinds := [], alts := [], laidByText := true, laidKinds := [.data, .data, .data, .data, .pinned], laidTests := true, laidLooks := .later }
def DesksComparedUptoCardSaid : Prop := Claim7.holds Tryz.pinned (.plain (OpenSpec.upto desksComparedSpec)) desksComparedUptoCard

/-- THE SECOND FORM's CARD OF 'pilelaw2.NumbersGiven'. -/
def numbersGivenUptoCard : Claim7 := { stood := { row := numbersGivenUptoRow, standIns := [], harness := (true, "312b958637d41a883e8be5d795926ee13ce58f4285d38953e9825630cd61c13b"), looks := true }, kinds := [], alts := [], laidByText := true, laidKinds := [.data, .data, .data, .data, .pinned], laidTests := true, laidLooks := .later }
def NumbersGivenUptoCardSaid : Prop := Claim7.holds Tryz.pinned (.plain (OpenSpec.upto numbersGivenSpec)) numbersGivenUptoCard

/-- THE SECOND FORM's CARD OF 'pilekeep2.NextClashesNever'. -/
def nextClashesNeverUptoCard : Claim7 := { stood := { row := nextClashesNeverUptoRow, standIns := [], harness := (true, "312b958637d41a883e8be5d795926ee13ce58f4285d38953e9825630cd61c13b"), looks := true }, kinds := [], alts := [], laidByText := true, laidKinds := [.data, .data, .data, .data, .pinned], laidTests := true, laidLooks := .later }
def NextClashesNeverUptoCardSaid : Prop := Claim7.holds Tryz.pinned (.plain (OpenSpec.upto nextClashesNeverSpec)) nextClashesNeverUptoCard
end Rows
end Go.Proofs.YtkdippipiidcmaaGreatDoor
