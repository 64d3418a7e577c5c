/- The plain law, in Lean alone: D1, D2. No condition: lemmas for the claim. -/
import Derived.Test.YtfmhkakoakcpgaaGreatDoorPlS1
import Derived.Test.YtfmhkakoakcpgaaGreatDoorPlB4
import Derived.Test.YtfmhkakoakcpgaaGreatDoorPlK
set_option linter.unusedVariables false
set_option linter.unusedSectionVars false
set_option linter.unusedSimpArgs false
set_option maxRecDepth 100000
namespace Go.Am
open Go Go.Proofs
variable [Fuel]
end Go.Am
set_option linter.unusedVariables false
set_option linter.unusedSectionVars false
set_option linter.unusedSimpArgs false
set_option maxRecDepth 100000
namespace Go.Am
open Go Go.Proofs
variable [Fuel]
noncomputable def baseB (s:List UInt8):List UInt8:=(z82z s some).getD []
theorem yAky {a:Option (List UInt8)} (h:a.isSome = true):a = some (a.getD []):=by
 cases a with
 | none=>cases h
 | some x=>rfl
theorem yByy:ydYy.all (fun s=>(z82z s some).isSome) = true:=by
 obtain ⟨m,h,rfl⟩:=ya5y ‹Fuel›
 kernel_rfl
theorem z82z_is {s:List UInt8} (h:s ∈ ydYy) (R:Type) (k:List UInt8→Option R):z82z s k = k (baseB s) :=
 yGby yr7y.na (args:=[.d (.str s)]) (F:=@z82z _ s) (fun _ _=>rfl) (yAky (List.all_eq_true.1 yByy s h)) R k
end Go.Am
