/-
  DERIVED. GIVEN WITH THE SEED: THE CARDS: each row of YtonhhbcacemaiaaGreatDoorRows.lean that lists a variable, with what it lists TIED to the program's text (the seventh form; the later family's looks); each row that meets fmt, with fmt's text TOLD by the authors' own Lean function (tested against real Go, not proved from fmt's source: count such statements apart). THE CARD IS WHAT COUNTS. Prove the row's statement (the work); the ties are given (YtonhhbcacemaiaaGreatDoorTie.lean); close each card by the builder's one call (the guide's Derived/Test/ToyasCard.lean, 'card_holds'). Laid BY PROGRAM, IN A SANDBOX (cutbox-door.mjs). By AI agents, Wed Nov 11 2026. No macro, syntax, notation, axiom, sorry.
-/
import Derived.Test.YtonhhbcacemaiaaGreatDoorRows
import GoSem.ClaimSeven
namespace Go.Proofs.YtonhhbcacemaiaaGreatDoor
namespace Rows

/-- THE TIED CARD OF 'pilekeep2.WindowsPermit'. -/
def windowsPermitCard : Claim7 := { stood := { row := windowsPermitRow, standIns := [], harness := (true, "8d1ab433519cb5c980f3fccefbf290c43f925740754f9ea2ba3a301e7592ff9e"), looks := false }, kinds := [], alts := [], laidByText := true, laidKinds := [.data, .pinned], laidTests := true, laidLooks := .later }
def WindowsPermitCardSaid : Prop := Claim7.holds Tryz.pinned (.plain (OpenSpec.ofChange windowsPermitSpec)) windowsPermitCard

/-- THE TIED CARD OF 'pilekeep2.CardsAgree'. -/
def cardsAgreeCard : Claim7 := { stood := { row := cardsAgreeRow, standIns := [], harness := (true, "8d1ab433519cb5c980f3fccefbf290c43f925740754f9ea2ba3a301e7592ff9e"), looks := false }, kinds := [], alts := [], laidByText := true, laidKinds := [.data, .pinned], laidTests := true, laidLooks := .later }
def CardsAgreeCardSaid : Prop := Claim7.holds Tryz.pinned (.plain (OpenSpec.ofChange cardsAgreeSpec)) cardsAgreeCard

/-- THE TIED CARD OF 'pilekeep2.AwardsStay'. -/
def awardsStayCard : Claim7 := { stood := { row := awardsStayRow, standIns := [], harness := (true, "8d1ab433519cb5c980f3fccefbf290c43f925740754f9ea2ba3a301e7592ff9e"), looks := false }, kinds := [], alts := [], laidByText := true, laidKinds := [.data, .data, .data, .data, .pinned], laidTests := true, laidLooks := .later }
def AwardsStayCardSaid : Prop := Claim7.holds Tryz.pinned (.plain (OpenSpec.ofChange awardsStaySpec)) awardsStayCard

/-- THE TIED CARD OF 'pilekeep2.MembersAreInside'. -/
def membersAreInsideCard : Claim7 := { stood := { row := membersAreInsideRow, standIns := [], harness := (true, "8d1ab433519cb5c980f3fccefbf290c43f925740754f9ea2ba3a301e7592ff9e"), looks := false }, kinds := [], alts := [], laidByText := true, laidKinds := [.data, .pinned], laidTests := true, laidLooks := .later }
def MembersAreInsideCardSaid : Prop := Claim7.holds Tryz.pinned (.plain (OpenSpec.ofChange membersAreInsideSpec)) membersAreInsideCard

/-- THE SECOND FORM's CARD OF 'pilekeep2.WindowsPermit'. -/
def windowsPermitUptoCard : Claim7 := { stood := { row := windowsPermitUptoRow, standIns := [], harness := (true, "8d1ab433519cb5c980f3fccefbf290c43f925740754f9ea2ba3a301e7592ff9e"), looks := false }, kinds := [], alts := [], laidByText := true, laidKinds := [.data, .pinned], laidTests := true, laidLooks := .later }
def WindowsPermitUptoCardSaid : Prop := Claim7.holds Tryz.pinned (.plain (OpenSpec.upto windowsPermitSpec)) windowsPermitUptoCard

/-- THE SECOND FORM's CARD OF 'pilekeep2.CardsAgree'. -/
def cardsAgreeUptoCard : Claim7 := { stood := { row := cardsAgreeUptoRow, standIns := [], harness := (true, "8d1ab433519cb5c980f3fccefbf290c43f925740754f9ea2ba3a301e7592ff9e"), looks := false }, kinds := [], alts := [], laidByText := true, laidKinds := [.data, .pinned], laidTests := true, laidLooks := .later }
def CardsAgreeUptoCardSaid : Prop := Claim7.holds Tryz.pinned (.plain (OpenSpec.upto cardsAgreeSpec)) cardsAgreeUptoCard

/-- THE SECOND FORM's CARD OF 'pilekeep2.AwardsStay'. -/
def awardsStayUptoCard : Claim7 := { stood := { row := awardsStayUptoRow, standIns := [], harness := (true, "8d1ab433519cb5c980f3fccefbf290c43f925740754f9ea2ba3a301e7592ff9e"), looks := false }, kinds := [], alts := [], laidByText := true, laidKinds := [.data, .data, .data, .data, .pinned], laidTests := true, laidLooks := .later }
def AwardsStayUptoCardSaid : Prop := Claim7.holds Tryz.pinned (.plain (OpenSpec.upto awardsStaySpec)) awardsStayUptoCard

/-- THE SECOND FORM's CARD OF 'pilekeep2.MembersAreInside'. -/
def membersAreInsideUptoCard : Claim7 := { stood := { row := membersAreInsideUptoRow, standIns := [], harness := (true, "8d1ab433519cb5c980f3fccefbf290c43f925740754f9ea2ba3a301e7592ff9e"), looks := false }, kinds := [], alts := [], laidByText := true, laidKinds := [.data, .pinned], laidTests := true, laidLooks := .later }
def MembersAreInsideUptoCardSaid : Prop := Claim7.holds Tryz.pinned (.plain (OpenSpec.upto membersAreInsideSpec)) membersAreInsideUptoCard
end Rows
end Go.Proofs.YtonhhbcacemaiaaGreatDoor
