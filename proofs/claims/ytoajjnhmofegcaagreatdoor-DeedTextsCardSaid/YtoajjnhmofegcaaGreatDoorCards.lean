/-
  DERIVED. GIVEN WITH THE SEED: THE CARDS: each row of YtoajjnhmofegcaaGreatDoorRows.lean that lists a variable, with what it lists TIED to the program's text (the seventh form; the later family's looks); each row that meets fmt, with fmt's text TOLD by the authors' own Lean function (tested against real Go, not proved from fmt's source: count such statements apart). THE CARD IS WHAT COUNTS. Prove the row's statement (the work); the ties are given (YtoajjnhmofegcaaGreatDoorTie.lean); close each card by the builder's one call (the guide's Derived/Test/ToyasCard.lean, 'card_holds'). Laid BY PROGRAM, IN A SANDBOX (cutbox-door.mjs). By AI agents, Wed Nov 11 2026. No macro, syntax, notation, axiom, sorry.
-/
import Derived.Test.YtoajjnhmofegcaaGreatDoorRows
import GoSem.ClaimSeven
namespace Go.Proofs.YtoajjnhmofegcaaGreatDoor
namespace Rows

/-- THE TIED CARD OF 'pilelaw2.LogTexts'. -/
def logTextsCard : Claim7 := { stood := { row := logTextsRow, standIns := [], harness := (true, "295ac57e88cc42fa2ff95daae33c0b19839268e2c488ffa2a4aa289a442228a0"), looks := true }, kinds := [], alts := [], laidByText := true, laidKinds := [.data, .data, .data, .data, .sentinel, .sentinel, .pinned], laidTests := true, laidLooks := .later }
def LogTextsCardSaid : Prop := Claim7.holds Tryz.pinned (.plain (OpenSpec.ofChange logTextsSpec)) logTextsCard

/-- THE TIED CARD OF 'pilelaw2.CardTexts'. -/
def cardTextsCard : Claim7 := { stood := { row := cardTextsRow, standIns := [], harness := (true, "295ac57e88cc42fa2ff95daae33c0b19839268e2c488ffa2a4aa289a442228a0"), looks := true }, kinds := [], alts := [], laidByText := true, laidKinds := [.data, .data, .data, .data, .sentinel, .sentinel, .pinned], laidTests := true, laidLooks := .later }
def CardTextsCardSaid : Prop := Claim7.holds Tryz.pinned (.plain (OpenSpec.ofChange cardTextsSpec)) cardTextsCard

/-- THE TIED CARD OF 'pilelaw2.SpotTexts'. -/
def spotTextsCard : Claim7 := { stood := { row := spotTextsRow, standIns := [], harness := (true, "295ac57e88cc42fa2ff95daae33c0b19839268e2c488ffa2a4aa289a442228a0"), looks := true }, kinds := [], alts := [], laidByText := true, laidKinds := [.data, .data, .data, .data, .sentinel, .sentinel, .pinned], laidTests := true, laidLooks := .later }
def SpotTextsCardSaid : Prop := Claim7.holds Tryz.pinned (.plain (OpenSpec.ofChange spotTextsSpec)) spotTextsCard

/-- THE TIED CARD OF 'pilelaw2.DeedTexts'. -/
def deedTextsCard : Claim7 := { stood := { row := deedTextsRow, standIns := [], harness := (true, "295ac57e88cc42fa2ff95daae33c0b19839268e2c488ffa2a4aa289a442228a0"), looks := true }, kinds := [], alts := [], laidByText := true, laidKinds := [.data, .data, .data, .data, .sentinel, .sentinel, .pinned], laidTests := true, laidLooks := .later }
def DeedTextsCardSaid : Prop := Claim7.holds Tryz.pinned (.plain (OpenSpec.ofChange deedTextsSpec)) deedTextsCard

/-- THE SECOND FORM's CARD OF 'pilelaw2.LogTexts'. -/
def logTextsUptoCard : Claim7 := { stood := { row := logTextsUptoRow, standIns := [], harness := (true, "295ac57e88cc42fa2ff95daae33c0b19839268e2c488ffa2a4aa289a442228a0"), looks := true }, kinds := [], alts := [], laidByText := true, laidKinds := [.data, .data, .data, .data, .sentinel, .sentinel, .pinned], laidTests := true, laidLooks := .later }
def LogTextsUptoCardSaid : Prop := Claim7.holds Tryz.pinned (.plain (OpenSpec.upto logTextsSpec)) logTextsUptoCard

/-- THE SECOND FORM's CARD OF 'pilelaw2.CardTexts'. -/
def cardTextsUptoCard : Claim7 := { stood := { row := cardTextsUptoRow, standIns := [], harness := (true, "295ac57e88cc42fa2ff95daae33c0b19839268e2c488ffa2a4aa289a442228a0"), looks := true }, kinds := [], alts := [], laidByText := true, laidKinds := [.data, .data, .data, .data, .sentinel, .sentinel, .pinned], laidTests := true, laidLooks := .later }
def CardTextsUptoCardSaid : Prop := Claim7.holds Tryz.pinned (.plain (OpenSpec.upto cardTextsSpec)) cardTextsUptoCard

/-- THE SECOND FORM's CARD OF 'pilelaw2.SpotTexts'. -/
def spotTextsUptoCard : Claim7 := { stood := { row := spotTextsUptoRow, standIns := [], harness := (true, "295ac57e88cc42fa2ff95daae33c0b19839268e2c488ffa2a4aa289a442228a0"), looks := true }, kinds := [], alts := [], laidByText := true, laidKinds := [.data, .data, .data, .data, .sentinel, .sentinel, .pinned], laidTests := true, laidLooks := .later }
def SpotTextsUptoCardSaid : Prop := Claim7.holds Tryz.pinned (.plain (OpenSpec.upto spotTextsSpec)) spotTextsUptoCard

/-- THE SECOND FORM's CARD OF 'pilelaw2.DeedTexts'. -/
def deedTextsUptoCard : Claim7 := { stood := { row := deedTextsUptoRow, standIns := [], harness := (true, "295ac57e88cc42fa2ff95daae33c0b19839268e2c488ffa2a4aa289a442228a0"), looks := true }, kinds := [], alts := [], laidByText := true, laidKinds := [.data, .data, .data, .data, .sentinel, .sentinel, .pinned], laidTests := true, laidLooks := .later }
def DeedTextsUptoCardSaid : Prop := Claim7.holds Tryz.pinned (.plain (OpenSpec.upto deedTextsSpec)) deedTextsUptoCard
end Rows
end Go.Proofs.YtoajjnhmofegcaaGreatDoor
