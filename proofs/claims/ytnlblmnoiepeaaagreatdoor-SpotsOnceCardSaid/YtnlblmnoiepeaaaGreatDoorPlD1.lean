/- The plain law, in Lean alone: D1, D2. No condition: lemmas for the claim. -/
import Derived.Test.YtnlblmnoiepeaaaGreatDoorPlS1
import Derived.Test.YtnlblmnoiepeaaaGreatDoorPlB4
import Derived.Test.YtnlblmnoiepeaaaGreatDoorPlK
set_option linter.unusedVariables false
set_option linter.unusedSectionVars false
set_option linter.unusedSimpArgs false
set_option maxRecDepth 100000
namespace Go.Am
open Go Go.Proofs
variable [Fuel]
end Go.Am
set_option linter.unusedVariables false
set_option linter.unusedSectionVars false
set_option linter.unusedSimpArgs false
set_option maxRecDepth 100000
namespace Go.Am
open Go Go.Proofs
variable [Fuel]
noncomputable def baseB (s:List UInt8):List UInt8:=(z85z s some).getD []
theorem yDhy {a:Option (List UInt8)} (h:a.isSome = true):a = some (a.getD []):=by
 cases a with
 | none=>cases h
 | some x=>rfl
theorem yEUy:yfly.all (fun s=>(z85z s some).isSome) = true:=by
 obtain ⟨m,h,rfl⟩:=ya1y ‹Fuel›
 kernel_rfl
theorem z85z_is {s:List UInt8} (h:s ∈ yfly) (R:Type) (k:List UInt8→Option R):z85z s k = k (baseB s) :=
 yJ6y ykry.na (args:=[.d (.str s)]) (F:=@z85z _ s) (fun _ _=>rfl) (yDhy (List.all_eq_true.1 yEUy s h)) R k
end Go.Am
