/- The plain law, in Lean alone: H2, H3. No condition: lemmas for the claim. -/
import Derived.Test.YtancmpgebeiiaaaGreatDoorPlH1
import Derived.Test.YtancmpgebeiiaaaGreatDoorPlB4
import Derived.Test.YtancmpgebeiiaaaGreatDoorPlS1
set_option linter.unusedVariables false
set_option linter.unusedSectionVars false
set_option linter.unusedSimpArgs false
set_option maxRecDepth 100000
namespace Go.Am
open Go Go.Proofs
variable [Fuel]
end Go.Am
set_option linter.unusedVariables false
set_option linter.unusedSectionVars false
set_option linter.unusedSimpArgs false
set_option maxRecDepth 100000
namespace Go.Am
open Go Go.Proofs
variable [Fuel]
end Go.Am
