/- The plain law, in Lean alone: E1. No condition: lemmas for the claim. -/
import Derived.Test.YtecelackdggokaaGreatDoorPlC1
set_option linter.unusedVariables false
set_option linter.unusedSectionVars false
set_option linter.unusedSimpArgs false
set_option maxRecDepth 100000
namespace Go.Am
open Go Go.Proofs
variable [Fuel]
theorem law_errs_loop (l : List Int) (hl : l.length < 1000000) : ∀ (xs : List Int) (n i : Nat), l.drop i = xs → xs.length < n → ∀ (R : Type) (k : Int → Option R),
    law_errs_L2 NN n l (l.length : Int) (i : Int) k (k 0) = k (orL xs)
  | _, 0, _, _, h, _, _ => by omega
  | [], n + 1, i, h, _, _, _ => by rw [law_errs_L2, ge_drop h]; rfl
  | x :: xs, n + 1, i, h, hn, R, k => by
    have h' := drop_cons h
    have ih := law_errs_loop l hl xs n (i + 1) h'.2.2.1 (by simp at hn; omega) R k
    rw [law_errs_L2, lt_drop h, w64_succ (by omega), ih]
    simp only [cond_true, get_drop h, orL]
    cases x != 0 <;> rfl
theorem law_errs_is (l : List Int) (hl : l.length < 1000000) (R : Type) (k : Int → Option R) : law_errs l k = k (orL l) :=
  law_errs_loop l hl l NN 0 rfl (by have := NN_ok; omega) R k
end Go.Am
