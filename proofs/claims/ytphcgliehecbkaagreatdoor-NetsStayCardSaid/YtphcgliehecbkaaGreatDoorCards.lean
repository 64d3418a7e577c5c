/-
  DERIVED. GIVEN WITH THE SEED: THE CARDS: each row of YtphcgliehecbkaaGreatDoorRows.lean that lists a variable, with what it lists TIED to the program's text (the seventh form; the later family's looks); each row that meets fmt, with fmt's text TOLD by the authors' own Lean function (tested against real Go, not proved from fmt's source: count such statements apart). THE CARD IS WHAT COUNTS. Prove the row's statement (the work); the ties are given (YtphcgliehecbkaaGreatDoorTie.lean); close each card by the builder's one call (the guide's Derived/Test/ToyasCard.lean, 'card_holds'). Laid BY PROGRAM, IN A SANDBOX (cutbox-door.mjs). By AI agents, Wed Nov 11 2026. No macro, syntax, notation, axiom, sorry.
-/
import Derived.Test.YtphcgliehecbkaaGreatDoorRows
import GoSem.ClaimSeven
namespace Go.Proofs.YtphcgliehecbkaaGreatDoor
namespace Rows

/-- THE TIED CARD OF 'pilekeep2.NetsStay'. -/
def netsStayCard : Claim7 := { stood := { row := netsStayRow, standIns := [], harness := (true, "161c873a7288ed9df62b3dd6089a84ee9bf604db8cc0effa7101597abebe99aa"), looks := false }, kinds := [], alts := [], laidByText := true, laidKinds := [.data, .pinned], laidTests := true, laidLooks := .later }
def NetsStayCardSaid : Prop := Claim7.holds Tryz.pinned (.plain (OpenSpec.ofChange netsStaySpec)) netsStayCard

/-- THE TIED CARD OF 'pilelaw2.DeedsMerge'. -/
def deedsMergeCard : Claim7 := { stood := { row := deedsMergeRow, standIns := [], harness := (true, "161c873a7288ed9df62b3dd6089a84ee9bf604db8cc0effa7101597abebe99aa"), looks := false }, kinds := [], alts := [], laidByText := true, laidKinds := [.data, .pinned], laidTests := true, laidLooks := .later }
def DeedsMergeCardSaid : Prop := Claim7.holds Tryz.pinned (.plain (OpenSpec.ofChange deedsMergeSpec)) deedsMergeCard

/-- THE SECOND FORM's CARD OF 'pilekeep2.NetsStay'. -/
def netsStayUptoCard : Claim7 := { stood := { row := netsStayUptoRow, standIns := [], harness := (true, "161c873a7288ed9df62b3dd6089a84ee9bf604db8cc0effa7101597abebe99aa"), looks := false }, kinds := [], alts := [], laidByText := true, laidKinds := [.data, .pinned], laidTests := true, laidLooks := .later }
def NetsStayUptoCardSaid : Prop := Claim7.holds Tryz.pinned (.plain (OpenSpec.upto netsStaySpec)) netsStayUptoCard

/-- THE SECOND FORM's CARD OF 'pilelaw2.DeedsMerge'. -/
def deedsMergeUptoCard : Claim7 := { stood := { row := deedsMergeUptoRow, standIns := [], harness := (true, "161c873a7288ed9df62b3dd6089a84ee9bf604db8cc0effa7101597abebe99aa"), looks := false }, kinds := [], alts := [], laidByText := true, laidKinds := [.data, .pinned], laidTests := true, laidLooks := .later }
def DeedsMergeUptoCardSaid : Prop := Claim7.holds Tryz.pinned (.plain (OpenSpec.upto deedsMergeSpec)) deedsMergeUptoCard
end Rows
end Go.Proofs.YtphcgliehecbkaaGreatDoor
