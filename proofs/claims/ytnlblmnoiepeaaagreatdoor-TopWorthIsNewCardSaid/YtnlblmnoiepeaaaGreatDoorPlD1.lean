/- The plain law, in Lean alone: D1, D2. No condition: lemmas for the claim. -/
import Derived.Test.YtnlblmnoiepeaaaGreatDoorPlS1
import Derived.Test.YtnlblmnoiepeaaaGreatDoorPlB4
import Derived.Test.YtnlblmnoiepeaaaGreatDoorPlK
set_option linter.unusedVariables false
set_option linter.unusedSectionVars false
set_option linter.unusedSimpArgs false
set_option maxRecDepth 100000
namespace Go.Am
open Go Go.Proofs
variable [Fuel]
end Go.Am
set_option linter.unusedVariables false
set_option linter.unusedSectionVars false
set_option linter.unusedSimpArgs false
set_option maxRecDepth 100000
namespace Go.Am
open Go Go.Proofs
variable [Fuel]
noncomputable def baseB (s : List UInt8) : List UInt8 := (z75z s some).getD []
theorem someStr_is {a : Option (List UInt8)} (h : a.isSome = true) : a = some (a.getD []) := by
 cases a with
 | none => cases h
 | some x => rfl
theorem basesI_ok : callsL.all (fun s => (z75z s some).isSome) = true := by
 obtain ⟨m, h, rfl⟩ := fuel_is ‹Fuel›
 kernel_rfl
theorem z75z_is {s : List UInt8} (h : s ∈ callsL) (R : Type) (k : List UInt8 → Option R) : z75z s k = k (baseB s) :=
 nat_str ok_z75z.na (args := [.d (.str s)]) (F := @z75z _ s) (fun _ _ => rfl) (someStr_is (List.all_eq_true.1 basesI_ok s h)) R k
end Go.Am
