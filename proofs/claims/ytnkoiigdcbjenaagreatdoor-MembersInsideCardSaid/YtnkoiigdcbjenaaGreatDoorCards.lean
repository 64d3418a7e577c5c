/-
  DERIVED. GIVEN WITH THE SEED: THE CARDS: each row of YtnkoiigdcbjenaaGreatDoorRows.lean that lists a variable, with what it lists TIED to the program's text (the seventh form; the later family's looks); each row that meets fmt, with fmt's text TOLD by the authors' own Lean function (tested against real Go, not proved from fmt's source: count such statements apart). THE CARD IS WHAT COUNTS. Prove the row's statement (the work); the ties are given (YtnkoiigdcbjenaaGreatDoorTie.lean); close each card by the builder's one call (the guide's Derived/Test/ToyasCard.lean, 'card_holds'). Laid BY PROGRAM, IN A SANDBOX (cutbox-door.mjs). By AI agents, Wed Nov 11 2026. No macro, syntax, notation, axiom, sorry.
-/
import Derived.Test.YtnkoiigdcbjenaaGreatDoorRows
import GoSem.ClaimSeven
namespace Go.Proofs.YtnkoiigdcbjenaaGreatDoor
namespace Rows

/-- THE TIED CARD OF 'pilelaw2.AwardsReached'. -/
def awardsReachedCard : Claim7 := { stood := { row := awardsReachedRow, standIns := [], harness := (true, "80c8e344ccecda0baa197a2278b931a139cc5cecb7bc7a2c99931fcd6bd17511"), looks := false }, kinds := [], alts := [], laidByText := true, laidKinds := [.data, .data, .data, .data, .pinned], laidTests := true, laidLooks := .later }
def AwardsReachedCardSaid : Prop := Claim7.holds Tryz.pinned (.plain (OpenSpec.ofChange awardsReachedSpec)) awardsReachedCard

/-- THE TIED CARD OF 'pilelaw2.MembersInside'. -/
def membersInsideCard : Claim7 := { stood := { row := membersInsideRow, standIns := [], harness := (true, "80c8e344ccecda0baa197a2278b931a139cc5cecb7bc7a2c99931fcd6bd17511"), looks := false }, kinds := [], alts := [], laidByText := true, laidKinds := [.data, .pinned], laidTests := true, laidLooks := .later }
def MembersInsideCardSaid : Prop := Claim7.holds Tryz.pinned (.plain (OpenSpec.ofChange membersInsideSpec)) membersInsideCard

/-- THE TIED CARD OF 'pilelaw2.RecordsKept'. -/
def recordsKeptCard : Claim7 := { stood := { row := recordsKeptRow, standIns := [], harness := (true, "80c8e344ccecda0baa197a2278b931a139cc5cecb7bc7a2c99931fcd6bd17511"), looks := false }, kinds := [], alts := [], laidByText := true, laidKinds := [.data, .pinned], laidTests := true, laidLooks := .later }
def RecordsKeptCardSaid : Prop := Claim7.holds Tryz.pinned (.plain (OpenSpec.ofChange recordsKeptSpec)) recordsKeptCard

/-- THE SECOND FORM's CARD OF 'pilelaw2.AwardsReached'. -/
def awardsReachedUptoCard : Claim7 := { stood := { row := awardsReachedUptoRow, standIns := [], harness := (true, "80c8e344ccecda0baa197a2278b931a139cc5cecb7bc7a2c99931fcd6bd17511"), looks := false }, kinds := [], alts := [], laidByText := true, laidKinds := [.data, .data, .data, .data, .pinned], laidTests := true, laidLooks := .later }
def AwardsReachedUptoCardSaid : Prop := Claim7.holds Tryz.pinned (.plain (OpenSpec.upto awardsReachedSpec)) awardsReachedUptoCard

/-- THE SECOND FORM's CARD OF 'pilelaw2.MembersInside'. -/
def membersInsideUptoCard : Claim7 := { stood := { row := membersInsideUptoRow, standIns := [], harness := (true, "80c8e344ccecda0baa197a2278b931a139cc5cecb7bc7a2c99931fcd6bd17511"), looks := false }, kinds := [], alts := [], laidByText := true, laidKinds := [.data, .pinned], laidTests := true, laidLooks := .later }
def MembersInsideUptoCardSaid : Prop := Claim7.holds Tryz.pinned (.plain (OpenSpec.upto membersInsideSpec)) membersInsideUptoCard

/-- THE SECOND FORM's CARD OF 'pilelaw2.RecordsKept'. -/
def recordsKeptUptoCard : Claim7 := { stood := { row := recordsKeptUptoRow, standIns := [], harness := (true, "80c8e344ccecda0baa197a2278b931a139cc5cecb7bc7a2c99931fcd6bd17511"), looks := false }, kinds := [], alts := [], laidByText := true, laidKinds := [.data, .pinned], laidTests := true, laidLooks := .later }
def RecordsKeptUptoCardSaid : Prop := Claim7.holds Tryz.pinned (.plain (OpenSpec.upto recordsKeptSpec)) recordsKeptUptoCard
end Rows
end Go.Proofs.YtnkoiigdcbjenaaGreatDoor
