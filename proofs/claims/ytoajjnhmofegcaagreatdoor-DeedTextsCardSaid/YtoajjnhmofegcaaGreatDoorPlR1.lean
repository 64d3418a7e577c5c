/- The plain law, in Lean alone: R1, R2, R3. No condition: lemmas for the claim. -/
import Derived.Test.YtoajjnhmofegcaaGreatDoorPlK
import Derived.Test.YtoajjnhmofegcaaGreatDoorPlS1
import Derived.Test.YtoajjnhmofegcaaGreatDoorPlB1
set_option linter.unusedVariables false
set_option linter.unusedSectionVars false
set_option linter.unusedSimpArgs false
set_option maxRecDepth 100000
namespace Go.Am
open Go Go.Proofs
end Go.Am
set_option linter.unusedVariables false
set_option linter.unusedSectionVars false
set_option linter.unusedSimpArgs false
set_option maxRecDepth 100000
namespace Go.Am
open Go Go.Proofs
variable [Fuel]
end Go.Am
set_option linter.unusedVariables false
set_option linter.unusedSectionVars false
set_option linter.unusedSimpArgs false
set_option maxRecDepth 100000
namespace Go.Am
open Go Go.Proofs
variable [Fuel]
end Go.Am
