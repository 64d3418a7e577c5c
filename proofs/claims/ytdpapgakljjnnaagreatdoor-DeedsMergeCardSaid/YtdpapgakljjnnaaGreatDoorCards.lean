/-
  DERIVED. GIVEN WITH THE SEED: THE CARDS: each row of YtdpapgakljjnnaaGreatDoorRows.lean that lists a variable, with what it lists TIED to the program's text (the seventh form; the later family's looks); each row that meets fmt, with fmt's text TOLD by the authors' own Lean function (tested against real Go, not proved from fmt's source: count such statements apart). THE CARD IS WHAT COUNTS. Prove the row's statement (the work); the ties are given (YtdpapgakljjnnaaGreatDoorTie.lean); close each card by the builder's one call (the guide's Derived/Test/ToyasCard.lean, 'card_holds'). Laid BY PROGRAM, IN A SANDBOX (cutbox-door.mjs). By AI agents, Wed Nov 11 2026. No macro, syntax, notation, axiom, sorry.
-/
import Derived.Test.YtdpapgakljjnnaaGreatDoorRows
import GoSem.ClaimSeven
namespace Go.Proofs.YtdpapgakljjnnaaGreatDoor
namespace Rows

/-- THE TIED CARD OF 'pilelaw2.DeedsMerge'. -/
def deedsMergeCard : Claim7 := { stood := { row := deedsMergeRow, standIns := [], harness := (true, "597636feb0e447b94ffc39689f88fd46422eed2f54419377b0d65fff00b4e6d4"), looks := true }, kinds := [], alts := [], laidByText := true, laidKinds := [.data, .pinned], laidTests := true, laidLooks := .later }
def DeedsMergeCardSaid : Prop := Claim7.holds Tryz.pinned (.plain (OpenSpec.ofChange deedsMergeSpec)) deedsMergeCard

/-- THE TIED CARD OF 'pilelaw2.NetsLog'. -/
def netsLogCard : Claim7 := { stood := { row := netsLogRow, standIns := [], harness := (true, "597636feb0e447b94ffc39689f88fd46422eed2f54419377b0d65fff00b4e6d4"), looks := true }, kinds := [], alts := [], laidByText := true, laidKinds := [.data, .pinned], laidTests := true, laidLooks := .later }
def NetsLogCardSaid : Prop := Claim7.holds Tryz.pinned (.plain (OpenSpec.ofChange netsLogSpec)) netsLogCard

/-- THE TIED CARD OF 'pilelaw2.DesksCompared'. -/
def desksComparedCard : Claim7 := { stood := { row := desksComparedRow, standIns := [], harness := (true, "597636feb0e447b94ffc39689f88fd46422eed2f54419377b0d65fff00b4e6d4"), looks := true }, kinds := [], alts := [], laidByText := true, laidKinds := [.data, .data, .data, .data, .pinned], laidTests := true, laidLooks := .later }
def DesksComparedCardSaid : Prop := Claim7.holds Tryz.pinned (.plain (OpenSpec.ofChange desksComparedSpec)) desksComparedCard

/-- THE TIED CARD OF 'pilelaw2.NumbersGiven'. -/
def numbersGivenCard : Claim7 := { stood := { row := numbersGivenRow, standIns := [], harness := (true, "597636feb0e447b94ffc39689f88fd46422eed2f54419377b0d65fff00b4e6d4"), looks := true }, kinds := [], alts := [], laidByText := true, laidKinds := [.data, .data, .data, .data, .pinned], laidTests := true, laidLooks := .later }
def NumbersGivenCardSaid : Prop := Claim7.holds Tryz.pinned (.plain (OpenSpec.ofChange numbersGivenSpec)) numbersGivenCard

/-- THE SECOND FORM's CARD OF 'pilelaw2.DeedsMerge'. -/
def deedsMergeUptoCard : Claim7 := { stood := { row := deedsMergeUptoRow, standIns := [], harness := (true, "597636feb0e447b94ffc39689f88fd46422eed2f54419377b0d65fff00b4e6d4"), looks := true }, kinds := [], alts := [], laidByText := true, laidKinds := [.data, .pinned], laidTests := true, laidLooks := .later }
def DeedsMergeUptoCardSaid : Prop := Claim7.holds Tryz.pinned (.plain (OpenSpec.upto deedsMergeSpec)) deedsMergeUptoCard

/-- THE SECOND FORM's CARD OF 'pilelaw2.NetsLog'. -/
def netsLogUptoCard : Claim7 := { stood := { row := netsLogUptoRow, standIns := [], harness := (true, "597636feb0e447b94ffc39689f88fd46422eed2f54419377b0d65fff00b4e6d4"), looks := true }, kinds := [], alts := [], laidByText := true, laidKinds := [.data, .pinned], laidTests := true, laidLooks := .later }
def NetsLogUptoCardSaid : Prop := Claim7.holds Tryz.pinned (.plain (OpenSpec.upto netsLogSpec)) netsLogUptoCard

/-- THE SECOND FORM's CARD OF 'pilelaw2.DesksCompared'. -/
def desksComparedUptoCard : Claim7 := { stood := { row := desksComparedUptoRow, standIns := [], harness := (true, "597636feb0e447b94ffc39689f88fd46422eed2f54419377b0d65fff00b4e6d4"), looks := true }, kinds := [], alts := [], laidByText := true, laidKinds := [.data, .data, .data, .data, .pinned], laidTests := true, laidLooks := .later }
def DesksComparedUptoCardSaid : Prop := Claim7.holds Tryz.pinned (.plain (OpenSpec.upto desksComparedSpec)) desksComparedUptoCard

/-- THE SECOND FORM's CARD OF 'pilelaw2.NumbersGiven'. -/
def numbersGivenUptoCard : Claim7 := { stood := { row := numbersGivenUptoRow, standIns := [], harness := (true, "597636feb0e447b94ffc39689f88fd46422eed2f54419377b0d65fff00b4e6d4"), looks := true }, kinds := [], alts := [], laidByText := true, laidKinds := [.data, .data, .data, .data, .pinned], laidTests := true, laidLooks := .later }
def NumbersGivenUptoCardSaid : Prop := Claim7.holds Tryz.pinned (.plain (OpenSpec.upto numbersGivenSpec)) numbersGivenUptoCard
end Rows
end Go.Proofs.YtdpapgakljjnnaaGreatDoor
