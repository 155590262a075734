/-
  DERIVED. GIVEN WITH THE SEED: THE CARDS: each row of YtmohppjkkpaaoaaGreatDoorRows.lean that lists a variable, with what it lists TIED to the program's text (the seventh form; the later family's looks); each row that meets fmt, with fmt's text TOLD by the authors' own Lean function (tested against real Go, not proved from fmt's source: count such statements apart). THE CARD IS WHAT COUNTS. Prove the row's statement (the work); the ties are given (YtmohppjkkpaaoaaGreatDoorTie.lean); close each card by the builder's one call (the guide's Derived/Test/ToyasCard.lean, 'card_holds'). Laid BY PROGRAM, IN A SANDBOX (cutbox-door.mjs). By AI agents, Wed Nov 11 2026. No macro, syntax, notation, axiom, sorry.
-/
import Derived.Test.YtmohppjkkpaaoaaGreatDoorRows
import GoSem.ClaimSeven
namespace Go.Proofs.YtmohppjkkpaaoaaGreatDoor
namespace Rows

/-- THE TIED CARD OF 'pilelaw2.SpotTexts'. -/
def spotTextsCard : Claim7 := { stood := { row := spotTextsRow, standIns := [], harness := (true, "6cd73c1e959a24030ffd095bf5c7451eb2b4eb0d6b66fd304ef8bbe0216d3414"), looks := true }, kinds := [], alts := [], laidByText := true, laidKinds := [.data, .data, .data, .data, .sentinel, .sentinel, .pinned], laidTests := true, laidLooks := .later }
def SpotTextsCardSaid : Prop := Claim7.holds Tryz.pinned (.plain (OpenSpec.ofChange spotTextsSpec)) spotTextsCard

/-- THE TIED CARD OF 'pilelaw2.LogTexts'. -/
def logTextsCard : Claim7 := { stood := { row := logTextsRow, standIns := [], harness := (true, "6cd73c1e959a24030ffd095bf5c7451eb2b4eb0d6b66fd304ef8bbe0216d3414"), looks := true }, kinds := [], alts := [], laidByText := true, laidKinds := [.data, .data, .data, .data, .sentinel, .sentinel, .pinned], laidTests := true, laidLooks := .later }
def LogTextsCardSaid : Prop := Claim7.holds Tryz.pinned (.plain (OpenSpec.ofChange logTextsSpec)) logTextsCard

/-- THE TIED CARD OF 'pilelaw2.CardTexts'. -/
def cardTextsCard : Claim7 := { stood := { row := cardTextsRow, standIns := [], harness := (true, "6cd73c1e959a24030ffd095bf5c7451eb2b4eb0d6b66fd304ef8bbe0216d3414"), looks := true }, kinds := [], alts := [], laidByText := true, laidKinds := [.data, .data, .data, .data, .sentinel, .sentinel, .pinned], laidTests := true, laidLooks := .later }
def CardTextsCardSaid : Prop := Claim7.holds Tryz.pinned (.plain (OpenSpec.ofChange cardTextsSpec)) cardTextsCard

/-- THE SECOND FORM's CARD OF 'pilelaw2.SpotTexts'. -/
def spotTextsUptoCard : Claim7 := { stood := { row := spotTextsUptoRow, standIns := [], harness := (true, "6cd73c1e959a24030ffd095bf5c7451eb2b4eb0d6b66fd304ef8bbe0216d3414"), looks := true }, kinds := [], alts := [], laidByText := true, laidKinds := [.data, .data, .data, .data, .sentinel, .sentinel, .pinned], laidTests := true, laidLooks := .later }
def SpotTextsUptoCardSaid : Prop := Claim7.holds Tryz.pinned (.plain (OpenSpec.upto spotTextsSpec)) spotTextsUptoCard

/-- THE SECOND FORM's CARD OF 'pilelaw2.LogTexts'. -/
def logTextsUptoCard : Claim7 := { stood := { row := logTextsUptoRow, standIns := [], harness := (true, "6cd73c1e959a24030ffd095bf5c7451eb2b4eb0d6b66fd304ef8bbe0216d3414"), looks := true }, kinds := [], alts := [], laidByText := true, laidKinds := [.data, .data, .data, .data, .sentinel, .sentinel, .pinned], laidTests := true, laidLooks := .later }
def LogTextsUptoCardSaid : Prop := Claim7.holds Tryz.pinned (.plain (OpenSpec.upto logTextsSpec)) logTextsUptoCard

/-- THE SECOND FORM's CARD OF 'pilelaw2.CardTexts'. -/
def cardTextsUptoCard : Claim7 := { stood := { row := cardTextsUptoRow, standIns := [], harness := (true, "6cd73c1e959a24030ffd095bf5c7451eb2b4eb0d6b66fd304ef8bbe0216d3414"), looks := true }, kinds := [], alts := [], laidByText := true, laidKinds := [.data, .data, .data, .data, .sentinel, .sentinel, .pinned], laidTests := true, laidLooks := .later }
def CardTextsUptoCardSaid : Prop := Claim7.holds Tryz.pinned (.plain (OpenSpec.upto cardTextsSpec)) cardTextsUptoCard
end Rows
end Go.Proofs.YtmohppjkkpaaoaaGreatDoor
