/-
  DERIVED. GIVEN WITH THE SEED: THE CARDS: each row of YtocbeijefjbpgaaGreatDoorRows.lean that lists a variable, with what it lists TIED to the program's text (the seventh form; the later family's looks); each row that meets fmt, with fmt's text TOLD by the authors' own Lean function (tested against real Go, not proved from fmt's source: count such statements apart). THE CARD IS WHAT COUNTS. Prove the row's statement (the work); the ties are given (YtocbeijefjbpgaaGreatDoorTie.lean); close each card by the builder's one call (the guide's Derived/Test/ToyasCard.lean, 'card_holds'). Laid BY PROGRAM, IN A SANDBOX (cutbox-door.mjs). By AI agents, Wed Nov 11 2026. No macro, syntax, notation, axiom, sorry.
-/
import Derived.Test.YtocbeijefjbpgaaGreatDoorRows
import GoSem.ClaimSeven
namespace Go.Proofs.YtocbeijefjbpgaaGreatDoor
namespace Rows

/-- THE TIED CARD OF 'pilekeep2.TablesAreFair'. -/
def tablesAreFairCard : Claim7 := { stood := { row := tablesAreFairRow, standIns := [], harness := (true, "9f0169c07d13f7c1835f5083450cc1099b6669c323258a6cabdb244e220ff512"), looks := false }, kinds := [], alts := [], laidByText := true, laidKinds := [.data, .pinned], laidTests := true, laidLooks := .later }
def TablesAreFairCardSaid : Prop := Claim7.holds Tryz.pinned (.plain (OpenSpec.ofChange tablesAreFairSpec)) tablesAreFairCard

/-- THE TIED CARD OF 'pilekeep2.NumbersAddUp'. -/
def numbersAddUpCard : Claim7 := { stood := { row := numbersAddUpRow, standIns := [], harness := (true, "9f0169c07d13f7c1835f5083450cc1099b6669c323258a6cabdb244e220ff512"), looks := false }, kinds := [], alts := [], laidByText := true, laidKinds := [.data, .pinned], laidTests := true, laidLooks := .later }
def NumbersAddUpCardSaid : Prop := Claim7.holds Tryz.pinned (.plain (OpenSpec.ofChange numbersAddUpSpec)) numbersAddUpCard

/-- THE SECOND FORM's CARD OF 'pilekeep2.TablesAreFair'. -/
def tablesAreFairUptoCard : Claim7 := { stood := { row := tablesAreFairUptoRow, standIns := [], harness := (true, "9f0169c07d13f7c1835f5083450cc1099b6669c323258a6cabdb244e220ff512"), looks := false }, kinds := [], alts := [], laidByText := true, laidKinds := [.data, .pinned], laidTests := true, laidLooks := .later }
def TablesAreFairUptoCardSaid : Prop := Claim7.holds Tryz.pinned (.plain (OpenSpec.upto tablesAreFairSpec)) tablesAreFairUptoCard

/-- THE SECOND FORM's CARD OF 'pilekeep2.NumbersAddUp'. -/
def numbersAddUpUptoCard : Claim7 := { stood := { row := numbersAddUpUptoRow, standIns := [], harness := (true, "9f0169c07d13f7c1835f5083450cc1099b6669c323258a6cabdb244e220ff512"), looks := false }, kinds := [], alts := [], laidByText := true, laidKinds := [.data, .pinned], laidTests := true, laidLooks := .later }
def NumbersAddUpUptoCardSaid : Prop := Claim7.holds Tryz.pinned (.plain (OpenSpec.upto numbersAddUpSpec)) numbersAddUpUptoCard
end Rows
end Go.Proofs.YtocbeijefjbpgaaGreatDoor
