/- The plain law, in Lean alone: D1, D2, D3. No condition: lemmas for the claim. -/
import Derived.Test.YtocbeijefjbpgaaGreatDoorPlS1
import Derived.Test.YtocbeijefjbpgaaGreatDoorPlB4
import Derived.Test.YtocbeijefjbpgaaGreatDoorPlK
set_option linter.unusedVariables false
set_option linter.unusedSectionVars false
set_option linter.unusedSimpArgs false
set_option maxRecDepth 100000
namespace Go.Am
open Go Go.Proofs
variable [Fuel]
end Go.Am
set_option linter.unusedVariables false
set_option linter.unusedSectionVars false
set_option linter.unusedSimpArgs false
set_option maxRecDepth 100000
namespace Go.Am
open Go Go.Proofs
variable [Fuel]
end Go.Am
set_option linter.unusedVariables false
set_option linter.unusedSectionVars false
set_option linter.unusedSimpArgs false
set_option maxRecDepth 100000
namespace Go.Am
open Go Go.Proofs
variable [Fuel]
theorem cmp_Compare__string_is (a b : List UInt8) (R : Type) (k : Int → Option R) : cmp_Compare__string a b k = k (Lib.compareBytes a b) := by
 simp only [cmp_Compare__string, cmp_Compare__string_, I_cmp_Compare__string, cmp_isNaN__string, cmp_isNaN__string_, beq_self_eq_true, Bool.not_true, cond_false, bytesLess_is]
 rcases cb_cases a b with h | h | h
 ·rw [h]; rfl
 ·have e := cb_zero a b h
  subst e
  rw [h, beq_self_eq_true]; rfl
 ·have e : (a == b) = false := by
   cases hq : a == b with
   | false => rfl
   | true => have := eq_of_beq hq; subst this; rw [cb_self] at h; cases h
  rw [h, e]; rfl
theorem slices_Compare_two (a b c d : List UInt8) (R : Type) (k : Int → Option R) : slices_Compare__string [a, b] [c, d] k = k (orL [Lib.compareBytes a c, Lib.compareBytes b d]) := by
 obtain ⟨m, e, hm⟩ := NN_succ
 obtain ⟨m, rfl⟩ : ∃ q, m = q + 2 := ⟨m - 2, by omega⟩
 have w1 : w64 (0 + 1) = ((1 : Nat) : Int) := w64_eq (by omega) (by omega)
 have w2 : w64 (((1 : Nat) : Int) + 1) = ((2 : Nat) : Int) := by rw [w64_eq (by omega) (by omega)]; rfl
 have a0 : ∀ {R : Type} (x y : List UInt8) (k : List UInt8 → Option R), get_ [x, y] 0 k = k x := fun x y k => get_nat (i := 0) rfl k
 have a1 : ∀ {R : Type} (x y : List UInt8) (k : List UInt8 → Option R), get_ [x, y] ((1 : Nat) : Int) k = k y := fun x y k => get_nat (i := 1) rfl k
 have d0 : decide ((0 : Int) < ([a, b].length : Int)) = true := rfl
 have d1 : decide (((1 : Nat) : Int) < ([a, b].length : Int)) = true := rfl
 have d2 : decide (((2 : Nat) : Int) < ([a, b].length : Int)) = false := rfl
 have f0 : decide ((0 : Int) ≥ ([c, d].length : Int)) = false := rfl
 have f1 : decide (((1 : Nat) : Int) ≥ ([c, d].length : Int)) = false := rfl
 have f2 : decide (([a, b].length : Int) < ([c, d].length : Int)) = false := rfl
 simp only [slices_Compare__string, slices_Compare__string_]
 rw [show I_slices_Compare__string.N = m + 2 + 1 from e]
 simp only [slices_Compare__string_L2, d0, d1, d2, f0, f1, f2, w1, w2, a0, a1, I_slices_Compare__string, cond_true, cond_false, cmp_Compare__string_is, orL]
 cases h1 : Lib.compareBytes a c != 0 with
 | true => simp only [cond_true]
 | false =>
  simp only [cond_false]
  cases h2 : Lib.compareBytes b d != 0 with
  | true => simp only [cond_true]
  | false => simp only [cond_false]
theorem cmp_ranked : Ords (fun x y : G_Place => orL [cmpI y.f_Points x.f_Points, Lib.compareBytes x.f_Key y.f_Key]) :=
 .lex (⟨fun x y => ords_cmpI.anti _ _, fun x y z h1 h2 => ords_cmpI.trans _ _ _ h2 h1⟩ : Ords fun x y : G_Place => cmpI y.f_Points x.f_Points) (.lex (ords_cb.on fun c : G_Place => c.f_Key) .nil)
theorem club_ranked_1_is (x y : G_Place) (R : Type) (k : Int → Option R) : club_ranked_1 x y k = k (orL [cmpI y.f_Points x.f_Points, Lib.compareBytes x.f_Key y.f_Key]) := by
 simp only [club_ranked_1, club_ranked_1_, I_club_ranked_1, cmp_Compare__int_is, strings_Compare_is]
 rw [cmp_Or__int_is _ (by simp)]
end Go.Am
