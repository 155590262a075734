/-
  DERIVED. GIVEN WITH THE SEED: THE CARDS: each row of YtpbepppkchjccaaGreatDoorRows.lean that lists a variable, with what it lists TIED to the program's text (the seventh form; the later family's looks); each row that meets fmt, with fmt's text TOLD by the authors' own Lean function (tested against real Go, not proved from fmt's source: count such statements apart). THE CARD IS WHAT COUNTS. Prove the row's statement (the work); the ties are given (YtpbepppkchjccaaGreatDoorTie.lean); close each card by the builder's one call (the guide's Derived/Test/ToyasCard.lean, 'card_holds'). Laid BY PROGRAM, IN A SANDBOX (cutbox-door.mjs). By AI agents, Wed Nov 11 2026. No macro, syntax, notation, axiom, sorry.
-/
import Derived.Test.YtpbepppkchjccaaGreatDoorRows
import GoSem.ClaimSeven
namespace Go.Proofs.YtpbepppkchjccaaGreatDoor
namespace Rows

/-- THE TIED CARD OF 'pilekeep2.FreeIsPermitted'. -/
def freeIsPermittedCard : Claim7 := { stood := { row := freeIsPermittedRow, standIns := [], harness := (true, "439a06d9cbcad5050832829ae58aca0304a881c53f546dab3b9e3d4560f46f37"), looks := false }, kinds := [], alts := [], laidByText := true, laidKinds := [.data, .pinned], laidTests := true, laidLooks := .later }
def FreeIsPermittedCardSaid : Prop := Claim7.holds Tryz.pinned (.plain (OpenSpec.ofChange freeIsPermittedSpec)) freeIsPermittedCard

/-- THE TIED CARD OF 'pilelaw2.SegmentsPermit'. -/
def segmentsPermitCard : Claim7 := { stood := { row := segmentsPermitRow, standIns := [], harness := (true, "439a06d9cbcad5050832829ae58aca0304a881c53f546dab3b9e3d4560f46f37"), looks := false }, kinds := [], alts := [], laidByText := true, laidKinds := [.data, .pinned], laidTests := true, laidLooks := .later }
def SegmentsPermitCardSaid : Prop := Claim7.holds Tryz.pinned (.plain (OpenSpec.ofChange segmentsPermitSpec)) segmentsPermitCard

/-- THE TIED CARD OF 'pilekeep2.WindowsPermit'. -/
def windowsPermitCard : Claim7 := { stood := { row := windowsPermitRow, standIns := [], harness := (true, "439a06d9cbcad5050832829ae58aca0304a881c53f546dab3b9e3d4560f46f37"), looks := false }, kinds := [], alts := [], laidByText := true, laidKinds := [.data, .pinned], laidTests := true, laidLooks := .later }
def WindowsPermitCardSaid : Prop := Claim7.holds Tryz.pinned (.plain (OpenSpec.ofChange windowsPermitSpec)) windowsPermitCard

/-- THE TIED CARD OF 'pilelaw2.FrequenciesFree'. -/
def frequenciesFreeCard : Claim7 := { stood := { row := frequenciesFreeRow, standIns := [], harness := (true, "439a06d9cbcad5050832829ae58aca0304a881c53f546dab3b9e3d4560f46f37"), looks := false }, kinds := [], alts := [], laidByText := true, laidKinds := [.data, .pinned], laidTests := true, laidLooks := .later }
def FrequenciesFreeCardSaid : Prop := Claim7.holds Tryz.pinned (.plain (OpenSpec.ofChange frequenciesFreeSpec)) frequenciesFreeCard

/-- THE SECOND FORM's CARD OF 'pilekeep2.FreeIsPermitted'. -/
def freeIsPermittedUptoCard : Claim7 := { stood := { row := freeIsPermittedUptoRow, standIns := [], harness := (true, "439a06d9cbcad5050832829ae58aca0304a881c53f546dab3b9e3d4560f46f37"), looks := false }, kinds := [], alts := [], laidByText := true, laidKinds := [.data, .pinned], laidTests := true, laidLooks := .later }
def FreeIsPermittedUptoCardSaid : Prop := Claim7.holds Tryz.pinned (.plain (OpenSpec.upto freeIsPermittedSpec)) freeIsPermittedUptoCard

/-- THE SECOND FORM's CARD OF 'pilelaw2.SegmentsPermit'. -/
def segmentsPermitUptoCard : Claim7 := { stood := { row := segmentsPermitUptoRow, standIns := [], harness := (true, "439a06d9cbcad5050832829ae58aca0304a881c53f546dab3b9e3d4560f46f37"), looks := false }, kinds := [], alts := [], laidByText := true, laidKinds := [.data, .pinned], laidTests := true, laidLooks := .later }
def SegmentsPermitUptoCardSaid : Prop := Claim7.holds Tryz.pinned (.plain (OpenSpec.upto segmentsPermitSpec)) segmentsPermitUptoCard

/-- THE SECOND FORM's CARD OF 'pilekeep2.WindowsPermit'. -/
def windowsPermitUptoCard : Claim7 := { stood := { row := windowsPermitUptoRow, standIns := [], harness := (true, "439a06d9cbcad5050832829ae58aca0304a881c53f546dab3b9e3d4560f46f37"), looks := false }, kinds := [], alts := [], laidByText := true, laidKinds := [.data, .pinned], laidTests := true, laidLooks := .later }
def WindowsPermitUptoCardSaid : Prop := Claim7.holds Tryz.pinned (.plain (OpenSpec.upto windowsPermitSpec)) windowsPermitUptoCard

/-- THE SECOND FORM's CARD OF 'pilelaw2.FrequenciesFree'. -/
def frequenciesFreeUptoCard : Claim7 := { stood := { row := frequenciesFreeUptoRow, standIns := [], harness := (true, "439a06d9cbcad5050832829ae58aca0304a881c53f546dab3b9e3d4560f46f37"), looks := false }, kinds := [], alts := [], laidByText := true, laidKinds := [.data, .pinned], laidTests := true, laidLooks := .later }
def FrequenciesFreeUptoCardSaid : Prop := Claim7.holds Tryz.pinned (.plain (OpenSpec.upto frequenciesFreeSpec)) frequenciesFreeUptoCard
end Rows
end Go.Proofs.YtpbepppkchjccaaGreatDoor
