/-
  DERIVED. GIVEN WITH THE SEED: THE CARDS: each row of YtfmhkakoakcpgaaGreatDoorRows.lean that lists a variable, with what it lists TIED to the program's text (the seventh form; the later family's looks); each row that meets fmt, with fmt's text TOLD by the authors' own Lean function (tested against real Go, not proved from fmt's source: count such statements apart). THE CARD IS WHAT COUNTS. Prove the row's statement (the work); the ties are given (YtfmhkakoakcpgaaGreatDoorTie.lean); close each card by the builder's one call (the guide's Derived/Test/ToyasCard.lean, 'card_holds'). Laid BY PROGRAM, IN A SANDBOX (cutbox-door.mjs). By AI agents, Wed Nov 11 2026. No macro, syntax, notation, axiom, sorry.
-/
import Derived.Test.YtfmhkakoakcpgaaGreatDoorRows
import GoSem.ClaimSeven
namespace Go.Proofs.YtfmhkakoakcpgaaGreatDoor
namespace Rows

/-- THE TIED CARD OF 'pilekeep2.NetsHaveOneLog'. -/
def netsHaveOneLogCard : Claim7 := { stood := { row := netsHaveOneLogRow, standIns := [], harness := (true, "8284cc09297ae859bd4ebc500d9a191c9f5f2eb9ae750fcc3324985a767c1f97"), looks := false }, kinds := [], alts := [], laidByText := true, laidKinds := [.data, .pinned], laidTests := true, laidLooks := .later }
def NetsHaveOneLogCardSaid : Prop := Claim7.holds Tryz.pinned (.plain (OpenSpec.ofChange netsHaveOneLogSpec)) netsHaveOneLogCard

/-- THE SECOND FORM's CARD OF 'pilekeep2.NetsHaveOneLog'. -/
def netsHaveOneLogUptoCard : Claim7 := { stood := { row := netsHaveOneLogUptoRow, standIns := [], harness := (true, "8284cc09297ae859bd4ebc500d9a191c9f5f2eb9ae750fcc3324985a767c1f97"), looks := false }, kinds := [], alts := [], laidByText := true, laidKinds := [.data, .pinned], laidTests := true, laidLooks := .later }
def NetsHaveOneLogUptoCardSaid : Prop := Claim7.holds Tryz.pinned (.plain (OpenSpec.upto netsHaveOneLogSpec)) netsHaveOneLogUptoCard
end Rows
end Go.Proofs.YtfmhkakoakcpgaaGreatDoor
