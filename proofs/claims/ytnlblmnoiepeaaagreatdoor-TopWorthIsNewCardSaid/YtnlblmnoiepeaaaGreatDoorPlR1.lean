/- The plain law, in Lean alone: R1, R2, R3. No condition: lemmas for the claim. -/
import Derived.Test.YtnlblmnoiepeaaaGreatDoorPlK
import Derived.Test.YtnlblmnoiepeaaaGreatDoorPlS1
import Derived.Test.YtnlblmnoiepeaaaGreatDoorPlB4
set_option linter.unusedVariables false
set_option linter.unusedSectionVars false
set_option linter.unusedSimpArgs false
set_option maxRecDepth 100000
namespace Go.Am
open Go Go.Proofs
end Go.Am
set_option linter.unusedVariables false
set_option linter.unusedSectionVars false
set_option linter.unusedSimpArgs false
set_option maxRecDepth 100000
namespace Go.Am
open Go Go.Proofs
variable [Fuel]
end Go.Am
set_option linter.unusedVariables false
set_option linter.unusedSectionVars false
set_option linter.unusedSimpArgs false
set_option maxRecDepth 100000
namespace Go.Am
open Go Go.Proofs
variable [Fuel]
theorem z56z_is {l : List Int} (hl : l.length ≤ 1000) (v : Int) (R : Type) (k : Bool → Option R) : z56z l v k = k (l.any fun y => v == y) := by
 simp only [z56z, z56z_, I_z56z, li_z53z]
 rw [sIndexV_is _ v l (by have := NN_ok; omega) (by have := NN_ok; omega), idxI_ge]
end Go.Am
