/-
  DERIVED. GIVEN WITH THE SEED: THE CARDS: each row of YtfngnnmdgfkenaaGreatDoorRows.lean that lists a variable, with what it lists TIED to the program's text (the seventh form; the later family's looks); each row that meets fmt, with fmt's text TOLD by the authors' own Lean function (tested against real Go, not proved from fmt's source: count such statements apart). THE CARD IS WHAT COUNTS. Prove the row's statement (the work); the ties are given (YtfngnnmdgfkenaaGreatDoorTie.lean); close each card by the builder's one call (the guide's Derived/Test/ToyasCard.lean, 'card_holds'). Laid BY PROGRAM, IN A SANDBOX (cutbox-door.mjs). By AI agents, Wed Nov 11 2026. No macro, syntax, notation, axiom, sorry.
-/
import Derived.Test.YtfngnnmdgfkenaaGreatDoorRows
import GoSem.ClaimSeven
namespace Go.Proofs.YtfngnnmdgfkenaaGreatDoor
namespace Rows

/-- THE TIED CARD OF 'pilekeep2.BandsStay'. -/
def bandsStayCard : Claim7 := { stood := { row := bandsStayRow, standIns := [], harness := (true, "c4664510956eaf0f960876e3d14abe669dce7fc7c28ede872c8c84ae466f63ab"), looks := false }, kinds := [], alts := [], laidByText := true, laidKinds := [.data, .pinned], laidTests := true, laidLooks := .later }
def BandsStayCardSaid : Prop := Claim7.holds Tryz.pinned (.plain (OpenSpec.ofChange bandsStaySpec)) bandsStayCard

/-- THE SECOND FORM's CARD OF 'pilekeep2.BandsStay'. -/
def bandsStayUptoCard : Claim7 := { stood := { row := bandsStayUptoRow, standIns := [], harness := (true, "c4664510956eaf0f960876e3d14abe669dce7fc7c28ede872c8c84ae466f63ab"), looks := false }, kinds := [], alts := [], laidByText := true, laidKinds := [.data, .pinned], laidTests := true, laidLooks := .later }
def BandsStayUptoCardSaid : Prop := Claim7.holds Tryz.pinned (.plain (OpenSpec.upto bandsStaySpec)) bandsStayUptoCard
end Rows
end Go.Proofs.YtfngnnmdgfkenaaGreatDoor
