/-
  DERIVED. GIVEN WITH THE SEED: THE CARDS: each row of YtancmpgebeiiaaaGreatDoorRows.lean that lists a variable, with what it lists TIED to the program's text (the seventh form; the later family's looks); each row that meets fmt, with fmt's text TOLD by the authors' own Lean function (tested against real Go, not proved from fmt's source: count such statements apart). THE CARD IS WHAT COUNTS. Prove the row's statement (the work); the ties are given (YtancmpgebeiiaaaGreatDoorTie.lean); close each card by the builder's one call (the guide's Derived/Test/ToyasCard.lean, 'card_holds'). Laid BY PROGRAM, IN A SANDBOX (cutbox-door.mjs). By AI agents, Wed Nov 11 2026. No macro, syntax, notation, axiom, sorry.
-/
import Derived.Test.YtancmpgebeiiaaaGreatDoorRows
import GoSem.ClaimSeven
namespace Go.Proofs.YtancmpgebeiiaaaGreatDoor
namespace Rows

/-- THE TIED CARD OF 'pilekeep2.PausesAreEmpty'. -/
def pausesAreEmptyCard : Claim7 := { stood := { row := pausesAreEmptyRow, standIns := [], harness := (true, "fca43f7bb902b90e3bcb462a1c1b898318efa6627fb8eba410cdf2951ef35aa6"), looks := false }, kinds := [], alts := [], laidByText := true, laidKinds := [.data, .pinned], laidTests := true, laidLooks := .later }
def PausesAreEmptyCardSaid : Prop := Claim7.holds Tryz.pinned (.plain (OpenSpec.ofChange pausesAreEmptySpec)) pausesAreEmptyCard

/-- THE SECOND FORM's CARD OF 'pilekeep2.PausesAreEmpty'. -/
def pausesAreEmptyUptoCard : Claim7 := { stood := { row := pausesAreEmptyUptoRow, standIns := [], harness := (true, "fca43f7bb902b90e3bcb462a1c1b898318efa6627fb8eba410cdf2951ef35aa6"), looks := false }, kinds := [], alts := [], laidByText := true, laidKinds := [.data, .pinned], laidTests := true, laidLooks := .later }
def PausesAreEmptyUptoCardSaid : Prop := Claim7.holds Tryz.pinned (.plain (OpenSpec.upto pausesAreEmptySpec)) pausesAreEmptyUptoCard
end Rows
end Go.Proofs.YtancmpgebeiiaaaGreatDoor
