/- The plain law, in Lean alone: D1. No condition: lemmas for the claim. -/
import Derived.Test.YtancmpgebeiiaaaGreatDoorPlS1
import Derived.Test.YtancmpgebeiiaaaGreatDoorPlB4
import Derived.Test.YtancmpgebeiiaaaGreatDoorPlK
set_option linter.unusedVariables false
set_option linter.unusedSectionVars false
set_option linter.unusedSimpArgs false
set_option maxRecDepth 100000
namespace Go.Am
open Go Go.Proofs
variable [Fuel]
end Go.Am
