/-
  DERIVED. GIVEN WITH THE SEED: THE CARDS: each row of YtjnhihfahcoekaaGreatDoorRows.lean that lists a variable, with what it lists TIED to the program's text (the seventh form; the later family's looks); each row that meets fmt, with fmt's text TOLD by the authors' own Lean function (tested against real Go, not proved from fmt's source: count such statements apart). THE CARD IS WHAT COUNTS. Prove the row's statement (the work); the ties are given (YtjnhihfahcoekaaGreatDoorTie.lean); close each card by the builder's one call (the guide's Derived/Test/ToyasCard.lean, 'card_holds'). Laid BY PROGRAM, IN A SANDBOX (cutbox-door.mjs). By AI agents, Wed Nov 11 2026. No macro, syntax, notation, axiom, sorry.
-/
import Derived.Test.YtjnhihfahcoekaaGreatDoorRows
import GoSem.ClaimSeven
namespace Go.Proofs.YtjnhihfahcoekaaGreatDoor
namespace Rows

/-- THE TIED CARD OF 'pilekeep2.LogsStay'. -/
def logsStayCard : Claim7 := { stood := { row := logsStayRow, standIns := [], harness := (true, "94cd5da08e88803826d4b31ca507b5a0a04b01eab8d96cc1cd0a14ffefbd0592"), looks := false }, kinds := [], alts := [], laidByText := true, laidKinds := [.data, .pinned], laidTests := true, laidLooks := .later }
def LogsStayCardSaid : Prop := Claim7.holds Tryz.pinned (.plain (OpenSpec.ofChange logsStaySpec)) logsStayCard

/-- THE SECOND FORM's CARD OF 'pilekeep2.LogsStay'. -/
def logsStayUptoCard : Claim7 := { stood := { row := logsStayUptoRow, standIns := [], harness := (true, "94cd5da08e88803826d4b31ca507b5a0a04b01eab8d96cc1cd0a14ffefbd0592"), looks := false }, kinds := [], alts := [], laidByText := true, laidKinds := [.data, .pinned], laidTests := true, laidLooks := .later }
def LogsStayUptoCardSaid : Prop := Claim7.holds Tryz.pinned (.plain (OpenSpec.upto logsStaySpec)) logsStayUptoCard
end Rows
end Go.Proofs.YtjnhihfahcoekaaGreatDoor
