/- The plain law, in Lean alone: B1. No condition: lemmas for the claim. -/
import Derived.Test.YtecelackdggokaaGreatDoorAmPrint
set_option linter.unusedVariables false
set_option linter.unusedSimpArgs false
set_option maxRecDepth 100000
namespace Go.Am
open Go
theorem w64_eq {x : Int} (h1 : -9223372036854775808 ≤ x) (h2 : x ≤ 9223372036854775807) : w64 x = x := by
  unfold w64 IntKind.wrap
  simp [IntKind.bits, IntKind.signed]
  omega
theorem w64_succ {i : Nat} (h : i < 4611686018427387904) : w64 ((i : Int) + 1) = ((i + 1 : Nat) : Int) := by
  rw [w64_eq (by omega) (by omega)]; omega
theorem w64_pred {i : Nat} (h : i < 4611686018427387904) (h0 : 0 < i) : w64 ((i : Int) - 1) = ((i - 1 : Nat) : Int) := by
  rw [w64_eq (by omega) (by omega)]; omega
theorem at_nat {α : Type} {l : List α} {i : Nat} {x : α} (h : l[i]? = some x) {R : Type} (k : α → Option R) : at_ l (i : Int) k = k x := by
  unfold at_; rw [Int.toNat_natCast, h]
theorem at_int {α : Type} {l : List α} {i : Int} {x : α} (h : l[i.toNat]? = some x) {R : Type} (k : α → Option R) : at_ l i k = k x := by
  unfold at_; rw [h]
theorem get_nat {α : Type} {l : List α} {i : Nat} {x : α} (h : l[i]? = some x) {R : Type} (k : α → Option R) : get_ l (i : Int) k = k x := by
  unfold get_; rw [at_nat h]; simp
theorem inr_nat {α : Type} {l : List α} {i : Nat} (h : i < l.length) {R : Type} (k : Option R) : inr l (i : Int) k = k := by
  unfold inr; rw [decide_eq_true (show 0 ≤ (i : Int) by omega), decide_eq_true (show (i : Int) < (l.length : Int) by omega)]; rfl
theorem set_nat {α : Type} {l : List α} {i : Nat} {x : α} : set_ l (i : Int) x = l.set i x := by unfold set_; rw [Int.toNat_natCast]
theorem drop_cons {α : Type} {l : List α} {i : Nat} {x : α} {xs : List α} (h : l.drop i = x :: xs) : l[i]? = some x ∧ i < l.length ∧ l.drop (i + 1) = xs ∧ l.length = i + 1 + xs.length := by
  have h1 : l[i]? = some x := by
    have := congrArg (fun t => t[0]?) h
    simpa [List.getElem?_drop] using this
  have h2 : i < l.length := by
    rcases Nat.lt_or_ge i l.length with h2 | h2
    · exact h2
    · rw [List.getElem?_eq_none h2] at h1; cases h1
  have h3 := congrArg List.length h
  simp at h3
  refine ⟨h1, h2, ?_, by omega⟩
  rw [← List.drop_drop, h]; rfl
theorem drop_nil {α : Type} {l : List α} {i : Nat} (h : l.drop i = []) : l.length ≤ i := by
  have := congrArg List.length h
  simp at this; omega
theorem lt_drop {α : Type} {l : List α} {i : Nat} {x : α} {xs : List α} (h : l.drop i = x :: xs) : decide ((i : Int) < (l.length : Int)) = true := by
  have := (drop_cons h).2.1; exact decide_eq_true (by omega)
theorem ge_drop {α : Type} {l : List α} {i : Nat} (h : l.drop i = []) : decide ((i : Int) < (l.length : Int)) = false := by
  have := drop_nil h; exact decide_eq_false (by omega)
theorem get_drop {α : Type} {l : List α} {i : Nat} {x : α} {xs : List α} (h : l.drop i = x :: xs) {R : Type} (k : α → Option R) : get_ l (i : Int) k = k x := get_nat (drop_cons h).1 k
theorem at_drop {α : Type} {l : List α} {i : Nat} {x : α} {xs : List α} (h : l.drop i = x :: xs) {R : Type} (k : α → Option R) : at_ l (i : Int) k = k x := at_nat (drop_cons h).1 k
theorem inr_drop {α : Type} {l : List α} {i : Nat} {x : α} {xs : List α} (h : l.drop i = x :: xs) {R : Type} (k : Option R) : inr l (i : Int) k = k := inr_nat (drop_cons h).2.1 k
theorem prev_drop {α : Type} {l : List α} {i : Nat} {p : α} {xs : List α} (h : l.drop (i - 1) = p :: xs) (h0 : 0 < i) (hl : l.length < 4611686018427387904) {R : Type} (k : α → Option R) : get_ l (w64 ((i : Int) - 1)) k = k p := by
  have := (drop_cons h).2.1
  rw [w64_pred (by omega) h0]; exact get_drop h k
theorem mem_drop {α : Type} {l : List α} {i : Nat} {x : α} {xs : List α} (h : l.drop i = x :: xs) : x ∈ l := List.mem_of_getElem? (drop_cons h).1
theorem sub_drop {α : Type} {l : List α} {i : Nat} {xs : List α} (h : l.drop i = xs) : ∀ x ∈ xs, x ∈ l := by
  subst h; exact fun x hx => List.mem_of_mem_drop hx
end Go.Am
