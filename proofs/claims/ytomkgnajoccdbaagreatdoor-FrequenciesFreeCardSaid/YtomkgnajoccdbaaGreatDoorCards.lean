/-
  DERIVED. GIVEN WITH THE SEED: THE CARDS: each row of YtomkgnajoccdbaaGreatDoorRows.lean that lists a variable, with what it lists TIED to the program's text (the seventh form; the later family's looks); each row that meets fmt, with fmt's text TOLD by the authors' own Lean function (tested against real Go, not proved from fmt's source: count such statements apart). THE CARD IS WHAT COUNTS. Prove the row's statement (the work); the ties are given (YtomkgnajoccdbaaGreatDoorTie.lean); close each card by the builder's one call (the guide's Derived/Test/ToyasCard.lean, 'card_holds'). Laid BY PROGRAM, IN A SANDBOX (cutbox-door.mjs). By AI agents, Wed Nov 11 2026. No macro, syntax, notation, axiom, sorry.
-/
import Derived.Test.YtomkgnajoccdbaaGreatDoorRows
import GoSem.ClaimSeven
namespace Go.Proofs.YtomkgnajoccdbaaGreatDoor
namespace Rows

/-- THE TIED CARD OF 'pilelaw2.EntrantsRanked'. -/
def entrantsRankedCard : Claim7 := { stood := { row := entrantsRankedRow, standIns := [], harness := (true, "f6a3940348eba9d9a20d4fc2f8cfedfea01805b4324268c72f9439849c306219"), looks := false }, kinds := [], alts := [], laidByText := true, laidKinds := [.data, .pinned], laidTests := true, laidLooks := .later }
def EntrantsRankedCardSaid : Prop := Claim7.holds Tryz.pinned (.plain (OpenSpec.ofChange entrantsRankedSpec)) entrantsRankedCard

/-- THE TIED CARD OF 'pilelaw2.FrequenciesFree'. -/
def frequenciesFreeCard : Claim7 := { stood := { row := frequenciesFreeRow, standIns := [], harness := (true, "f6a3940348eba9d9a20d4fc2f8cfedfea01805b4324268c72f9439849c306219"), looks := false }, kinds := [], alts := [], laidByText := true, laidKinds := [.data, .pinned], laidTests := true, laidLooks := .later }
def FrequenciesFreeCardSaid : Prop := Claim7.holds Tryz.pinned (.plain (OpenSpec.ofChange frequenciesFreeSpec)) frequenciesFreeCard

/-- THE SECOND FORM's CARD OF 'pilelaw2.EntrantsRanked'. -/
def entrantsRankedUptoCard : Claim7 := { stood := { row := entrantsRankedUptoRow, standIns := [], harness := (true, "f6a3940348eba9d9a20d4fc2f8cfedfea01805b4324268c72f9439849c306219"), looks := false }, kinds := [], alts := [], laidByText := true, laidKinds := [.data, .pinned], laidTests := true, laidLooks := .later }
def EntrantsRankedUptoCardSaid : Prop := Claim7.holds Tryz.pinned (.plain (OpenSpec.upto entrantsRankedSpec)) entrantsRankedUptoCard

/-- THE SECOND FORM's CARD OF 'pilelaw2.FrequenciesFree'. -/
def frequenciesFreeUptoCard : Claim7 := { stood := { row := frequenciesFreeUptoRow, standIns := [], harness := (true, "f6a3940348eba9d9a20d4fc2f8cfedfea01805b4324268c72f9439849c306219"), looks := false }, kinds := [], alts := [], laidByText := true, laidKinds := [.data, .pinned], laidTests := true, laidLooks := .later }
def FrequenciesFreeUptoCardSaid : Prop := Claim7.holds Tryz.pinned (.plain (OpenSpec.upto frequenciesFreeSpec)) frequenciesFreeUptoCard
end Rows
end Go.Proofs.YtomkgnajoccdbaaGreatDoor
