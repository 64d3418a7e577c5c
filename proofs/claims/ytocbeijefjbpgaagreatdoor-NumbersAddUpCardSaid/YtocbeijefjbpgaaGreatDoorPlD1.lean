/- The plain law, in Lean alone: D1. No condition: lemmas for the claim. -/
import Derived.Test.YtocbeijefjbpgaaGreatDoorPlS1
import Derived.Test.YtocbeijefjbpgaaGreatDoorPlB4
import Derived.Test.YtocbeijefjbpgaaGreatDoorPlK
set_option linter.unusedVariables false
set_option linter.unusedSectionVars false
set_option linter.unusedSimpArgs false
set_option maxRecDepth 100000
namespace Go.Am
open Go Go.Proofs
variable [Fuel]
end Go.Am
