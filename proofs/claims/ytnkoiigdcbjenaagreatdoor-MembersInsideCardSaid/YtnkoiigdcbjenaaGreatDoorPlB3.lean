/- The plain law, in Lean alone: B3. No condition: lemmas for the claim. -/
import Derived.Test.YtnkoiigdcbjenaaGreatDoorPlB1
set_option linter.unusedVariables false
set_option linter.unusedSimpArgs false
set_option maxRecDepth 100000
namespace Go.Am
open Go
theorem X_clone_is {α : Type} {by_ : Nat} (l : List α) (hl : l.length ≤ 1000000) (hby : by_ ≤ 10000) {R : Type} (k : List α → Option R) : X_clone by_ l k = k l := by
  have p1 : l.length * by_ ≤ 10000000000 := Nat.le_trans (Nat.mul_le_mul hl hby) (by omega)
  unfold X_clone
  rw [decide_eq_true (show l.length * by_ ≤ 140737488355328 by omega), decide_eq_true (show l.length ≤ maxLen by unfold maxLen; omega)]
  rfl
theorem room1 {α : Type} (l : List α) (x : α) (by_ : Nat) (hl : l.length ≤ 1000000) (hby : by_ ≤ 10000) : decide ((l.length + [x].length) * by_ ≤ roomBytes') = true := by
  have p1 : (l.length + [x].length) * by_ ≤ 1000001 * 10000 := Nat.mul_le_mul (by simp; omega) hby
  exact decide_eq_true (by unfold roomBytes'; omega)
end Go.Am
