/- The plain law, in Lean alone: B3. No condition: lemmas for the claim. -/
import Derived.Test.YtonhhbcacemaiaaGreatDoorPlB1
set_option linter.unusedVariables false
set_option linter.unusedSimpArgs false
set_option maxRecDepth 100000
namespace Go.Am
open Go
def dedupFrom {α : Type} (eq : α → α → Bool) : α → List α → List α
 | _, [] => []
 | p, y :: ys => if eq y p then dedupFrom eq y ys else y :: dedupFrom eq y ys
def compactP {α : Type} (eq : α → α → Bool) : List α → List α
 | [] => []
 | x :: xs => x :: dedupFrom eq x xs
theorem dedupFrom_sub {α : Type} (eq : α → α → Bool) : ∀ (l : List α) (p x : α), x ∈ dedupFrom eq p l → x ∈ l
 | [], _, _, h => by cases h
 | y :: ys, p, x, h => by
  unfold dedupFrom at h
  split at h
  ·exact List.mem_cons_of_mem _ (dedupFrom_sub eq ys y x h)
  ·rcases List.mem_cons.1 h with rfl | h
   ·exact List.mem_cons_self
   ·exact List.mem_cons_of_mem _ (dedupFrom_sub eq ys y x h)
theorem compactP_sub {α : Type} {eq : α → α → Bool} {l : List α} {x : α} (h : x ∈ compactP eq l) : x ∈ l := by
 cases l with
 | nil => cases h
 | cons y ys =>
  rcases List.mem_cons.1 h with rfl | h
  ·exact List.mem_cons_self
  ·exact List.mem_cons_of_mem _ (dedupFrom_sub eq ys y x h)
theorem room1 {α : Type} (l : List α) (x : α) (by_ : Nat) (hl : l.length ≤ 1000000) (hby : by_ ≤ 10000) : decide ((l.length + [x].length) * by_ ≤ roomBytes') = true := by
 have p1 : (l.length + [x].length) * by_ ≤ 1000001 * 10000 := Nat.mul_le_mul (by simp; omega) hby
 exact decide_eq_true (by unfold roomBytes'; omega)
end Go.Am
