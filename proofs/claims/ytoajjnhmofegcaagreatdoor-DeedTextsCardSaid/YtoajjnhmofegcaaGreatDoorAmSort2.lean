/- Part of an abstract machine for this program, with its soundness: AmSort2. No condition: lemmas for the claim. -/
import Derived.Test.YtoajjnhmofegcaaGreatDoorAmSort
import Derived.Shelf.Sort.Plain
import Derived.Shelf.Slices.In.SortNone
set_option linter.unusedVariables false
set_option linter.unusedSimpArgs false
namespace Go.Am
open Go Go.Proofs Go.RowKit Go.Sort
variable {A:Nat→Type} {P:Program} {T:Ty A} {f:Nat}
end Go.Am
