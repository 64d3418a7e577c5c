/- Part of an abstract machine for this program, with its soundness: AmExt2. No condition: lemmas for the claim. -/
import Derived.Test.YtnlblmnoiepeaaaGreatDoorAmExt
import Derived.Shelf.Spec.SlicesGrow
import Derived.Shelf.Strconv.Itoa3
import Derived.Shelf.SlIter.Nil
import Derived.Shelf.SlIterI.Nil
import Derived.Shelf.SortM.Plain
import Derived.Shelf.SortM.SortNone
set_option linter.unusedVariables false
set_option linter.unusedSimpArgs false
namespace Go.Am
open Go Go.Proofs Go.RowKit
variable {A : Nat → Type} {P : Program} {T : Ty A} {f : Nat}
end Go.Am
set_option linter.unusedVariables false
set_option linter.unusedSimpArgs false
namespace Go.Am
open Go Go.Proofs Go.RowKit Go.Sort
variable {A : Nat → Type} {P : Program} {T : Ty A} {f : Nat}
end Go.Am
set_option linter.unusedVariables false
namespace Go.Am
open Go Go.Maps Go.Proofs Go.RowKit
open Go.WideElems (Fit rd rg rg_of)
variable {A : Nat → Type} {P : Program} {T : Ty A}
def SpAll (P : Program) (T : Ty A) (l : List (Nat × Sp A)) : Prop := ∀ p ∈ l, SpOk P T p.1 p.2
theorem SpAll.nil : SpAll P T [] := fun _ h => by cases h
theorem SpAll.cons {f : Nat} {s : Sp A} {l : List (Nat × Sp A)} (h : SpOk P T f s) (t : SpAll P T l) : SpAll P T ((f, s) :: l) := fun p hp => by
 rcases List.mem_cons.1 hp with rfl | hp
 ·exact h
 ·exact t p hp
theorem SpAll.ok {l : List (Nat × Sp A)} (h : SpAll P T l) : ∀ f s, l.lookup f = some s → SpOk P T f s := by
 induction l with
 | nil => intro f s hl; cases hl
 | cons p l ih =>
  obtain ⟨g, t⟩ := p
  intro f s hl
  rw [List.lookup_cons] at hl
  cases he : f == g with
  | true =>
   rw [he] at hl
   simp only [Option.some.injEq] at hl
   obtain rfl : f = g := by simpa using he
   subst hl
   exact h (f, t) (by simp)
  | false =>
   rw [he] at hl
   exact ih (fun p hp => h p (by simp [hp])) f s hl
end Go.Am
