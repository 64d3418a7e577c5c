/-
  DERIVED. GIVEN WITH THE SEED: THE CARDS: each row of YtmhbhdhddlbdlaaGreatDoorRows.lean that lists a variable, with what it lists TIED to the program's text (the seventh form; the later family's looks); each row that meets fmt, with fmt's text TOLD by the authors' own Lean function (tested against real Go, not proved from fmt's source: count such statements apart). THE CARD IS WHAT COUNTS. Prove the row's statement (the work); the ties are given (YtmhbhdhddlbdlaaGreatDoorTie.lean); close each card by the builder's one call (the guide's Derived/Test/ToyasCard.lean, 'card_holds'). Laid BY PROGRAM, IN A SANDBOX (cutbox-door.mjs). By AI agents, Wed Nov 11 2026. No macro, syntax, notation, axiom, sorry.
-/
import Derived.Test.YtmhbhdhddlbdlaaGreatDoorRows
import GoSem.ClaimSeven
namespace Go.Proofs.YtmhbhdhddlbdlaaGreatDoor
namespace Rows

/-- THE TIED CARD OF 'pilekeep2.SpotsAgree'. -/
def spotsAgreeCard : Claim7 := { stood := { row := spotsAgreeRow, standIns := [], harness := (true, "bb16fff5f3a0ca83aa2020f93db3bab5d5de58b59349318d7692eaea5613e741"), looks := true }, kinds := [], alts := [], laidByText := true, laidKinds := [.data, .data, .data, .data, .sentinel, .sentinel, .pinned], laidTests := true, laidLooks := .later }
def SpotsAgreeCardSaid : Prop := Claim7.holds Tryz.pinned (.plain (OpenSpec.ofChange spotsAgreeSpec)) spotsAgreeCard

/-- THE TIED CARD OF 'pilekeep2.DeedsAgree'. -/
def deedsAgreeCard : Claim7 := { stood := { row := deedsAgreeRow, standIns := [], harness := (true, "bb16fff5f3a0ca83aa2020f93db3bab5d5de58b59349318d7692eaea5613e741"), looks := true }, kinds := [], alts := [], laidByText := true, laidKinds := [.data, .data, .data, .data, .sentinel, .sentinel, .pinned], laidTests := true, laidLooks := .later }
def DeedsAgreeCardSaid : Prop := Claim7.holds Tryz.pinned (.plain (OpenSpec.ofChange deedsAgreeSpec)) deedsAgreeCard

/-- THE SECOND FORM's CARD OF 'pilekeep2.SpotsAgree'. -/
def spotsAgreeUptoCard : Claim7 := { stood := { row := spotsAgreeUptoRow, standIns := [], harness := (true, "bb16fff5f3a0ca83aa2020f93db3bab5d5de58b59349318d7692eaea5613e741"), looks := true }, kinds := [], alts := [], laidByText := true, laidKinds := [.data, .data, .data, .data, .sentinel, .sentinel, .pinned], laidTests := true, laidLooks := .later }
def SpotsAgreeUptoCardSaid : Prop := Claim7.holds Tryz.pinned (.plain (OpenSpec.upto spotsAgreeSpec)) spotsAgreeUptoCard

/-- THE SECOND FORM's CARD OF 'pilekeep2.DeedsAgree'. -/
def deedsAgreeUptoCard : Claim7 := { stood := { row := deedsAgreeUptoRow, standIns := [], harness := (true, "bb16fff5f3a0ca83aa2020f93db3bab5d5de58b59349318d7692eaea5613e741"), looks := true }, kinds := [], alts := [], laidByText := true, laidKinds := [.data, .data, .data, .data, .sentinel, .sentinel, .pinned], laidTests := true, laidLooks := .later }
def DeedsAgreeUptoCardSaid : Prop := Claim7.holds Tryz.pinned (.plain (OpenSpec.upto deedsAgreeSpec)) deedsAgreeUptoCard
end Rows
end Go.Proofs.YtmhbhdhddlbdlaaGreatDoor
