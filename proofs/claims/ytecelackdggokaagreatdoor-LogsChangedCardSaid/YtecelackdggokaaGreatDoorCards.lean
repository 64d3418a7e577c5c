/-
  DERIVED. GIVEN WITH THE SEED: THE CARDS: each row of YtecelackdggokaaGreatDoorRows.lean that lists a variable, with what it lists TIED to the program's text (the seventh form; the later family's looks); each row that meets fmt, with fmt's text TOLD by the authors' own Lean function (tested against real Go, not proved from fmt's source: count such statements apart). THE CARD IS WHAT COUNTS. Prove the row's statement (the work); the ties are given (YtecelackdggokaaGreatDoorTie.lean); close each card by the builder's one call (the guide's Derived/Test/ToyasCard.lean, 'card_holds'). Laid BY PROGRAM, IN A SANDBOX (cutbox-door.mjs). By AI agents, Wed Nov 11 2026. No macro, syntax, notation, axiom, sorry.
-/
import Derived.Test.YtecelackdggokaaGreatDoorRows
import GoSem.ClaimSeven
namespace Go.Proofs.YtecelackdggokaaGreatDoor
namespace Rows

/-- THE TIED CARD OF 'pilelaw2.LogsChanged'. -/
def logsChangedCard : Claim7 := { stood := { row := logsChangedRow, standIns := [], harness := (true, "9e1e9766e547f1dc5216e12cbf043f2b31e7ed6b65490696471837d99d419f2a"), looks := false }, kinds := [], alts := [], laidByText := true, laidKinds := [.data, .pinned], laidTests := true, laidLooks := .later }
def LogsChangedCardSaid : Prop := Claim7.holds Tryz.pinned (.plain (OpenSpec.ofChange logsChangedSpec)) logsChangedCard

/-- THE TIED CARD OF 'pilelaw2.CardsConfirm'. -/
def cardsConfirmCard : Claim7 := { stood := { row := cardsConfirmRow, standIns := [], harness := (true, "9e1e9766e547f1dc5216e12cbf043f2b31e7ed6b65490696471837d99d419f2a"), looks := false }, kinds := [], alts := [], laidByText := true, laidKinds := [.data, .pinned], laidTests := true, laidLooks := .later }
def CardsConfirmCardSaid : Prop := Claim7.holds Tryz.pinned (.plain (OpenSpec.ofChange cardsConfirmSpec)) cardsConfirmCard

/-- THE TIED CARD OF 'pilelaw2.DeedsMerge'. -/
def deedsMergeCard : Claim7 := { stood := { row := deedsMergeRow, standIns := [], harness := (true, "9e1e9766e547f1dc5216e12cbf043f2b31e7ed6b65490696471837d99d419f2a"), looks := false }, kinds := [], alts := [], laidByText := true, laidKinds := [.data, .pinned], laidTests := true, laidLooks := .later }
def DeedsMergeCardSaid : Prop := Claim7.holds Tryz.pinned (.plain (OpenSpec.ofChange deedsMergeSpec)) deedsMergeCard

/-- THE TIED CARD OF 'pilelaw2.SegmentsPermit'. -/
def segmentsPermitCard : Claim7 := { stood := { row := segmentsPermitRow, standIns := [], harness := (true, "9e1e9766e547f1dc5216e12cbf043f2b31e7ed6b65490696471837d99d419f2a"), looks := false }, kinds := [], alts := [], laidByText := true, laidKinds := [.data, .pinned], laidTests := true, laidLooks := .later }
def SegmentsPermitCardSaid : Prop := Claim7.holds Tryz.pinned (.plain (OpenSpec.ofChange segmentsPermitSpec)) segmentsPermitCard

/-- THE SECOND FORM's CARD OF 'pilelaw2.LogsChanged'. -/
def logsChangedUptoCard : Claim7 := { stood := { row := logsChangedUptoRow, standIns := [], harness := (true, "9e1e9766e547f1dc5216e12cbf043f2b31e7ed6b65490696471837d99d419f2a"), looks := false }, kinds := [], alts := [], laidByText := true, laidKinds := [.data, .pinned], laidTests := true, laidLooks := .later }
def LogsChangedUptoCardSaid : Prop := Claim7.holds Tryz.pinned (.plain (OpenSpec.upto logsChangedSpec)) logsChangedUptoCard

/-- THE SECOND FORM's CARD OF 'pilelaw2.CardsConfirm'. -/
def cardsConfirmUptoCard : Claim7 := { stood := { row := cardsConfirmUptoRow, standIns := [], harness := (true, "9e1e9766e547f1dc5216e12cbf043f2b31e7ed6b65490696471837d99d419f2a"), looks := false }, kinds := [], alts := [], laidByText := true, laidKinds := [.data, .pinned], laidTests := true, laidLooks := .later }
def CardsConfirmUptoCardSaid : Prop := Claim7.holds Tryz.pinned (.plain (OpenSpec.upto cardsConfirmSpec)) cardsConfirmUptoCard

/-- THE SECOND FORM's CARD OF 'pilelaw2.DeedsMerge'. -/
def deedsMergeUptoCard : Claim7 := { stood := { row := deedsMergeUptoRow, standIns := [], harness := (true, "9e1e9766e547f1dc5216e12cbf043f2b31e7ed6b65490696471837d99d419f2a"), looks := false }, kinds := [], alts := [], laidByText := true, laidKinds := [.data, .pinned], laidTests := true, laidLooks := .later }
def DeedsMergeUptoCardSaid : Prop := Claim7.holds Tryz.pinned (.plain (OpenSpec.upto deedsMergeSpec)) deedsMergeUptoCard

/-- THE SECOND FORM's CARD OF 'pilelaw2.SegmentsPermit'. -/
def segmentsPermitUptoCard : Claim7 := { stood := { row := segmentsPermitUptoRow, standIns := [], harness := (true, "9e1e9766e547f1dc5216e12cbf043f2b31e7ed6b65490696471837d99d419f2a"), looks := false }, kinds := [], alts := [], laidByText := true, laidKinds := [.data, .pinned], laidTests := true, laidLooks := .later }
def SegmentsPermitUptoCardSaid : Prop := Claim7.holds Tryz.pinned (.plain (OpenSpec.upto segmentsPermitSpec)) segmentsPermitUptoCard
end Rows
end Go.Proofs.YtecelackdggokaaGreatDoor
