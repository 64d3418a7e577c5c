/-
  DERIVED. GIVEN WITH THE SEED: THE CARDS: each row of YtfifleplhegkdaaGreatDoorRows.lean that lists a variable, with what it lists TIED to the program's text (the seventh form; the later family's looks); each row that meets fmt, with fmt's text TOLD by the authors' own Lean function (tested against real Go, not proved from fmt's source: count such statements apart). THE CARD IS WHAT COUNTS. Prove the row's statement (the work); the ties are given (YtfifleplhegkdaaGreatDoorTie.lean); close each card by the builder's one call (the guide's Derived/Test/ToyasCard.lean, 'card_holds'). Laid BY PROGRAM, IN A SANDBOX (cutbox-door.mjs). By AI agents, Wed Nov 11 2026. No macro, syntax, notation, axiom, sorry.
-/
import Derived.Test.YtfifleplhegkdaaGreatDoorRows
import GoSem.ClaimSeven
namespace Go.Proofs.YtfifleplhegkdaaGreatDoor
namespace Rows

/-- THE TIED CARD OF 'pilekeep2.FreeIsPermitted'. -/
def freeIsPermittedCard : Claim7 := { stood := { row := freeIsPermittedRow, standIns := [], harness := (true, "3a2e4ff09c0178a2a5917c67315f814d68d518e47cc332bbff567a5f97744071"), looks := false }, kinds := [], alts := [], laidByText := true, laidKinds := [.data, .pinned], laidTests := true, laidLooks := .later }
def FreeIsPermittedCardSaid : Prop := Claim7.holds Tryz.pinned (.plain (OpenSpec.ofChange freeIsPermittedSpec)) freeIsPermittedCard

/-- THE TIED CARD OF 'pilekeep2.ChangesCanGoBack'. -/
def changesCanGoBackCard : Claim7 := { stood := { row := changesCanGoBackRow, standIns := [], harness := (true, "3a2e4ff09c0178a2a5917c67315f814d68d518e47cc332bbff567a5f97744071"), looks := false }, kinds := [], alts := [], laidByText := true, laidKinds := [.data, .pinned], laidTests := true, laidLooks := .later }
def ChangesCanGoBackCardSaid : Prop := Claim7.holds Tryz.pinned (.plain (OpenSpec.ofChange changesCanGoBackSpec)) changesCanGoBackCard

/-- THE SECOND FORM's CARD OF 'pilekeep2.FreeIsPermitted'. -/
def freeIsPermittedUptoCard : Claim7 := { stood := { row := freeIsPermittedUptoRow, standIns := [], harness := (true, "3a2e4ff09c0178a2a5917c67315f814d68d518e47cc332bbff567a5f97744071"), looks := false }, kinds := [], alts := [], laidByText := true, laidKinds := [.data, .pinned], laidTests := true, laidLooks := .later }
def FreeIsPermittedUptoCardSaid : Prop := Claim7.holds Tryz.pinned (.plain (OpenSpec.upto freeIsPermittedSpec)) freeIsPermittedUptoCard

/-- THE SECOND FORM's CARD OF 'pilekeep2.ChangesCanGoBack'. -/
def changesCanGoBackUptoCard : Claim7 := { stood := { row := changesCanGoBackUptoRow, standIns := [], harness := (true, "3a2e4ff09c0178a2a5917c67315f814d68d518e47cc332bbff567a5f97744071"), looks := false }, kinds := [], alts := [], laidByText := true, laidKinds := [.data, .pinned], laidTests := true, laidLooks := .later }
def ChangesCanGoBackUptoCardSaid : Prop := Claim7.holds Tryz.pinned (.plain (OpenSpec.upto changesCanGoBackSpec)) changesCanGoBackUptoCard
end Rows
end Go.Proofs.YtfifleplhegkdaaGreatDoor
