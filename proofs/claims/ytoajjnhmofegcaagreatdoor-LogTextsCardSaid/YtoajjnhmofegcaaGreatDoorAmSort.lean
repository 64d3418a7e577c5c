/- Part of an abstract machine for this program, with its soundness: AmSort. No condition: lemmas for the claim. -/
import Derived.Test.YtoajjnhmofegcaaGreatDoorAmExt2
import Derived.Shelf.SlSortCmp.NoneTotal
set_option linter.unusedVariables false
set_option linter.unusedSimpArgs false
namespace Go.Am
open Go Go.Proofs Go.RowKit Go.Sort
variable {A : Nat → Type} {P : Program} {T : Ty A} {f : Nat}
abbrev CmpT (α : Type) : Type 1 := α → α → {R : Type} → (Int → Option R) → Option R
end Go.Am
