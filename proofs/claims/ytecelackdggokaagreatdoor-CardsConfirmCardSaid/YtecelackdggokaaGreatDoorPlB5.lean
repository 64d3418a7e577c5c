/- The plain law, in Lean alone: B5. No condition: lemmas for the claim. -/
import Derived.Test.YtecelackdggokaaGreatDoorPlB4
set_option linter.unusedVariables false
set_option linter.unusedSimpArgs false
set_option maxRecDepth 100000
namespace Go.Am
open Go
theorem sorted_one {α : Type} {c : α → α → Int} (h : Ords c) {xs ys : List α} (hz : ∀ x ∈ ys, ∀ y ∈ ys, c x y = 0 → x = y) (hp : xs.Perm ys) (h1 : xs.Pairwise fun a b => c a b ≤ 0) (h2 : ys.Pairwise fun a b => c a b ≤ 0) : xs = ys :=
  List.Perm.eq_of_pairwise (le := fun a b => c a b ≤ 0) (fun a b ha hb h3 h4 => hz a (hp.mem_iff.1 ha) b hb (by have := h.anti a b; omega)) h1 h2 hp
theorem X_sortf_one {α : Type} {call : CmpT α} {xs : List α} {c : α → α → Int} (h : Ords c) (hl : xs.length ≤ 1000000) (hz : ∀ x ∈ xs, ∀ y ∈ xs, c x y = 0 → x = y) (hc : ∀ x ∈ xs, ∀ y ∈ xs, ∀ (R : Type) (k : Int → Option R), call x y k = k (c x y)) {R : Type} (k : List α → Option R) : X_sortf call xs k = k (sortI c xs) := by
  obtain ⟨ys, g1, g2, g3⟩ := X_sortf_is (by omega) hc (h.pre (· ∈ xs))
  have hs := sortI_sorted (h.pre (fun _ => True)) xs (fun _ _ => trivial)
  have hpm := sortI_perm c xs
  rw [g3, sorted_one h (fun x hx y hy => hz x (hpm.mem_iff.1 hx) y (hpm.mem_iff.1 hy)) (g1.trans hpm.symm) g2 hs]
end Go.Am
