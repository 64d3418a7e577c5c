/-
  DERIVED. GIVEN WITH THE SEED: THE CARDS: each row of YthfphbbhjodbcaaGreatDoorRows.lean that lists a variable, with what it lists TIED to the program's text (the seventh form; the later family's looks); each row that meets fmt, with fmt's text TOLD by the authors' own Lean function (tested against real Go, not proved from fmt's source: count such statements apart). THE CARD IS WHAT COUNTS. Prove the row's statement (the work); the ties are given (YthfphbbhjodbcaaGreatDoorTie.lean); close each card by the builder's one call (the guide's Derived/Test/ToyasCard.lean, 'card_holds'). Laid BY PROGRAM, IN A SANDBOX (cutbox-door.mjs). By AI agents, Wed Nov 11 2026. No macro, syntax, notation, axiom, sorry.
-/
import Derived.Test.YthfphbbhjodbcaaGreatDoorRows
import GoSem.ClaimSeven
namespace Go.Proofs.YthfphbbhjodbcaaGreatDoor
namespace Rows

/-- THE TIED CARD OF 'pilelaw2.LogsCounted'. -/
def logsCountedCard : Claim7 := { stood := { row := logsCountedRow, standIns := [], harness := (true, "26403cde82c99c1d3dfbe56c9130c149498bd0e44a5e0f4d199be344e5321038"), looks := false }, kinds := [], alts := [], laidByText := true, laidKinds := [.data, .pinned], laidTests := true, laidLooks := .later }
def LogsCountedCardSaid : Prop := Claim7.holds Tryz.pinned (.plain (OpenSpec.ofChange logsCountedSpec)) logsCountedCard

/-- THE TIED CARD OF 'pilelaw2.LogsMerge'. -/
def logsMergeCard : Claim7 := { stood := { row := logsMergeRow, standIns := [], harness := (true, "26403cde82c99c1d3dfbe56c9130c149498bd0e44a5e0f4d199be344e5321038"), looks := false }, kinds := [], alts := [], laidByText := true, laidKinds := [.data, .pinned], laidTests := true, laidLooks := .later }
def LogsMergeCardSaid : Prop := Claim7.holds Tryz.pinned (.plain (OpenSpec.ofChange logsMergeSpec)) logsMergeCard

/-- THE SECOND FORM's CARD OF 'pilelaw2.LogsCounted'. -/
def logsCountedUptoCard : Claim7 := { stood := { row := logsCountedUptoRow, standIns := [], harness := (true, "26403cde82c99c1d3dfbe56c9130c149498bd0e44a5e0f4d199be344e5321038"), looks := false }, kinds := [], alts := [], laidByText := true, laidKinds := [.data, .pinned], laidTests := true, laidLooks := .later }
def LogsCountedUptoCardSaid : Prop := Claim7.holds Tryz.pinned (.plain (OpenSpec.upto logsCountedSpec)) logsCountedUptoCard

/-- THE SECOND FORM's CARD OF 'pilelaw2.LogsMerge'. -/
def logsMergeUptoCard : Claim7 := { stood := { row := logsMergeUptoRow, standIns := [], harness := (true, "26403cde82c99c1d3dfbe56c9130c149498bd0e44a5e0f4d199be344e5321038"), looks := false }, kinds := [], alts := [], laidByText := true, laidKinds := [.data, .pinned], laidTests := true, laidLooks := .later }
def LogsMergeUptoCardSaid : Prop := Claim7.holds Tryz.pinned (.plain (OpenSpec.upto logsMergeSpec)) logsMergeUptoCard
end Rows
end Go.Proofs.YthfphbbhjodbcaaGreatDoor
