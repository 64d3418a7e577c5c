/-
  DERIVED. GIVEN WITH THE SEED: THE CARDS: each row of YtnlblmnoiepeaaaGreatDoorRows.lean that lists a variable, with what it lists TIED to the program's text (the seventh form; the later family's looks); each row that meets fmt, with fmt's text TOLD by the authors' own Lean function (tested against real Go, not proved from fmt's source: count such statements apart). THE CARD IS WHAT COUNTS. Prove the row's statement (the work); the ties are given (YtnlblmnoiepeaaaGreatDoorTie.lean); close each card by the builder's one call (the guide's Derived/Test/ToyasCard.lean, 'card_holds'). Laid BY PROGRAM, IN A SANDBOX (cutbox-door.mjs). By AI agents, Wed Nov 11 2026. No macro, syntax, notation, axiom, sorry.
-/
import Derived.Test.YtnlblmnoiepeaaaGreatDoorRows
import GoSem.ClaimSeven
namespace Go.Proofs.YtnlblmnoiepeaaaGreatDoor
namespace Rows

/-- THE TIED CARD OF 'piletop.TopWorthIsNew'. -/
def topWorthIsNewCard : Claim7 := { stood := { row := topWorthIsNewRow, standIns := [], harness := (true, "cd6428073ee3d2f4cbb513cb549bff6700e4e054cebb1002c06121fa6b3372c3"), looks := false }, kinds := [], alts := [], laidByText := true, laidKinds := [.data, .pinned], laidTests := true, laidLooks := .later }
def TopWorthIsNewCardSaid : Prop := Claim7.holds Tryz.pinned (.plain (OpenSpec.ofChange topWorthIsNewSpec)) topWorthIsNewCard

/-- THE TIED CARD OF 'pilekeep2.SpotsOnce'. -/
def spotsOnceCard : Claim7 := { stood := { row := spotsOnceRow, standIns := [], harness := (true, "cd6428073ee3d2f4cbb513cb549bff6700e4e054cebb1002c06121fa6b3372c3"), looks := false }, kinds := [], alts := [], laidByText := true, laidKinds := [.data, .data, .data, .data, .pinned], laidTests := true, laidLooks := .later }
def SpotsOnceCardSaid : Prop := Claim7.holds Tryz.pinned (.plain (OpenSpec.ofChange spotsOnceSpec)) spotsOnceCard

/-- THE SECOND FORM's CARD OF 'piletop.TopWorthIsNew'. -/
def topWorthIsNewUptoCard : Claim7 := { stood := { row := topWorthIsNewUptoRow, standIns := [], harness := (true, "cd6428073ee3d2f4cbb513cb549bff6700e4e054cebb1002c06121fa6b3372c3"), looks := false }, kinds := [], alts := [], laidByText := true, laidKinds := [.data, .pinned], laidTests := true, laidLooks := .later }
def TopWorthIsNewUptoCardSaid : Prop := Claim7.holds Tryz.pinned (.plain (OpenSpec.upto topWorthIsNewSpec)) topWorthIsNewUptoCard

/-- THE SECOND FORM's CARD OF 'pilekeep2.SpotsOnce'. -/
def spotsOnceUptoCard : Claim7 := { stood := { row := spotsOnceUptoRow, standIns := [], harness := (true, "cd6428073ee3d2f4cbb513cb549bff6700e4e054cebb1002c06121fa6b3372c3"), looks := false }, kinds := [], alts := [], laidByText := true, laidKinds := [.data, .data, .data, .data, .pinned], laidTests := true, laidLooks := .later }
def SpotsOnceUptoCardSaid : Prop := Claim7.holds Tryz.pinned (.plain (OpenSpec.upto spotsOnceSpec)) spotsOnceUptoCard
end Rows
end Go.Proofs.YtnlblmnoiepeaaaGreatDoor
