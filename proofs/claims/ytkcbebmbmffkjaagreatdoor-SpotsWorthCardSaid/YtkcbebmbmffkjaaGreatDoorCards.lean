/-
  DERIVED. GIVEN WITH THE SEED: THE CARDS: each row of YtkcbebmbmffkjaaGreatDoorRows.lean that lists a variable, with what it lists TIED to the program's text (the seventh form; the later family's looks); each row that meets fmt, with fmt's text TOLD by the authors' own Lean function (tested against real Go, not proved from fmt's source: count such statements apart). THE CARD IS WHAT COUNTS. Prove the row's statement (the work); the ties are given (YtkcbebmbmffkjaaGreatDoorTie.lean); close each card by the builder's one call (the guide's Derived/Test/ToyasCard.lean, 'card_holds'). Laid BY PROGRAM, IN A SANDBOX (cutbox-door.mjs). By AI agents, Wed Nov 11 2026. No macro, syntax, notation, axiom, sorry.
-/
import Derived.Test.YtkcbebmbmffkjaaGreatDoorRows
import GoSem.ClaimSeven
namespace Go.Proofs.YtkcbebmbmffkjaaGreatDoor
namespace Rows

/-- THE TIED CARD OF 'pilelaw2.SpotsWorth'. -/
def spotsWorthCard : Claim7 := { stood := { row := spotsWorthRow, standIns := [], harness := (true, "0e5f86f2646331f5df3d34bd10887f47a61fff2713ce870570f21142f067a430"), looks := false }, kinds := [], alts := [], laidByText := true, laidKinds := [.data, .pinned], laidTests := true, laidLooks := .later }
def SpotsWorthCardSaid : Prop := Claim7.holds Tryz.pinned (.plain (OpenSpec.ofChange spotsWorthSpec)) spotsWorthCard

/-- THE TIED CARD OF 'pilelaw2.SpotsHeard'. -/
def spotsHeardCard : Claim7 := { stood := { row := spotsHeardRow, standIns := [], harness := (true, "0e5f86f2646331f5df3d34bd10887f47a61fff2713ce870570f21142f067a430"), looks := false }, kinds := [], alts := [], laidByText := true, laidKinds := [.data, .data, .data, .data, .pinned], laidTests := true, laidLooks := .later }
def SpotsHeardCardSaid : Prop := Claim7.holds Tryz.pinned (.plain (OpenSpec.ofChange spotsHeardSpec)) spotsHeardCard

/-- THE SECOND FORM's CARD OF 'pilelaw2.SpotsWorth'. -/
def spotsWorthUptoCard : Claim7 := { stood := { row := spotsWorthUptoRow, standIns := [], harness := (true, "0e5f86f2646331f5df3d34bd10887f47a61fff2713ce870570f21142f067a430"), looks := false }, kinds := [], alts := [], laidByText := true, laidKinds := [.data, .pinned], laidTests := true, laidLooks := .later }
def SpotsWorthUptoCardSaid : Prop := Claim7.holds Tryz.pinned (.plain (OpenSpec.upto spotsWorthSpec)) spotsWorthUptoCard

/-- THE SECOND FORM's CARD OF 'pilelaw2.SpotsHeard'. -/
def spotsHeardUptoCard : Claim7 := { stood := { row := spotsHeardUptoRow, standIns := [], harness := (true, "0e5f86f2646331f5df3d34bd10887f47a61fff2713ce870570f21142f067a430"), looks := false }, kinds := [], alts := [], laidByText := true, laidKinds := [.data, .data, .data, .data, .pinned], laidTests := true, laidLooks := .later }
def SpotsHeardUptoCardSaid : Prop := Claim7.holds Tryz.pinned (.plain (OpenSpec.upto spotsHeardSpec)) spotsHeardUptoCard
end Rows
end Go.Proofs.YtkcbebmbmffkjaaGreatDoor
