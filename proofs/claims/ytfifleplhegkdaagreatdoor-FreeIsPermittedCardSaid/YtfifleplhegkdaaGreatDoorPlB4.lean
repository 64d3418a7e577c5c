/- The plain law, in Lean alone: B4, B5. No condition: lemmas for the claim. -/
import Derived.Test.YtfifleplhegkdaaGreatDoorPlB3
import Derived.KernelRfl
set_option linter.unusedVariables false
set_option linter.unusedSimpArgs false
set_option maxRecDepth 100000
namespace Go.Am
open Go
def cmpI (a b : Int) : Int := bif decide (a < b) then -1 else bif decide (a > b) then 1 else 0
def orL : List Int → Int
 | [] => 0
 | x :: xs => bif x != 0 then x else orL xs
structure Ords {α : Type} (c : α → α → Int) : Prop where
 anti : ∀ x y, c y x = - c x y
 trans : ∀ x y z, c x y ≤ 0 → c y z ≤ 0 → c x z ≤ 0
theorem Ords.refl {α : Type} {c : α → α → Int} (h : Ords c) (x : α) : c x x = 0 := by have := h.anti x x; omega
theorem Ords.nil {α : Type} : Ords (fun (x y : α) => orL []) := ⟨fun _ _ => by simp [orL], fun _ _ _ _ _ => by simp [orL]⟩
theorem cb_cases (a b : List UInt8) : Lib.compareBytes a b = -1 ∨ Lib.compareBytes a b = 0 ∨ Lib.compareBytes a b = 1 := by
 induction a generalizing b with
 | nil => cases b <;> simp [Lib.compareBytes]
 | cons x xs ih =>
  cases b with
  | nil => simp [Lib.compareBytes]
  | cons y ys =>
   unfold Lib.compareBytes
   split
   ·exact .inl rfl
   ·split
    ·exact .inr (.inr rfl)
    ·exact ih ys
theorem cb_self : ∀ l : List UInt8, Lib.compareBytes l l = 0
 | [] => rfl
 | x :: xs => by unfold Lib.compareBytes; simp [cb_self xs]
theorem u8 {x y : UInt8} (h1 : ¬ x < y) (h2 : ¬ y < x) : x = y := by
 have e1 : ¬ x.toNat < y.toNat := by simpa [UInt8.lt_iff_toNat_lt] using h1
 have e2 : ¬ y.toNat < x.toNat := by simpa [UInt8.lt_iff_toNat_lt] using h2
 exact UInt8.toNat_inj.1 (by omega)
theorem bytesLess_is : ∀ a b : List UInt8, Op.bytesLess a b = decide (Lib.compareBytes a b < 0)
 | [], [] => by simp [Op.bytesLess, Lib.compareBytes]
 | _ :: _, [] => by simp [Op.bytesLess, Lib.compareBytes]
 | [], _ :: _ => by simp [Op.bytesLess, Lib.compareBytes]
 | x :: xs, y :: ys => by
  unfold Op.bytesLess Lib.compareBytes
  by_cases h1 : x < y
  ·simp [h1]
  ·by_cases h2 : y < x
   ·have h3 : ¬ x = y := fun e => by subst e; exact h1 h2
    simp [h1, h2, h3]
   ·have h3 := u8 h1 h2
    subst h3
    simp [h1, bytesLess_is xs ys]
theorem cb_zero : ∀ a b : List UInt8, Lib.compareBytes a b = 0 → a = b
 | [], [], _ => rfl
 | [], _ :: _, h => by simp [Lib.compareBytes] at h
 | _ :: _, [], h => by simp [Lib.compareBytes] at h
 | x :: xs, y :: ys, h => by
  unfold Lib.compareBytes at h
  split at h
  ·cases h
  ·split at h
   ·cases h
   ·rename_i h1 h2
    rw [u8 h1 h2, cb_zero xs ys h]
theorem cb_eq_zero {a b : List UInt8} : Lib.compareBytes a b = 0 ↔ a = b := ⟨cb_zero a b, fun h => by rw [h]; exact cb_self b⟩
theorem ne_cb (a b : List UInt8) : (!(a == b)) = (Lib.compareBytes a b != 0) := by
 rw [Bool.eq_iff_iff]; simp [cb_eq_zero]
theorem orL_zero {l : List Int} : orL l = 0 ↔ ∀ x ∈ l, x = 0 := by
 induction l with
 | nil => simp [orL]
 | cons x xs ih =>
  unfold orL
  by_cases h : x = 0
  ·simp [h, ih]
  ·have : (x != 0) = true := by simpa using h
   rw [this]; simp [h]
variable {A : Nat → Type}
theorem nat_bool {S : Spec A} (h : NatSpec S) {args : List (IV A)} {ys0 : List (IV A)} {F : {R : Type} → (Bool → Option R) → Option R} (hF : ∀ (R : Type) (k : IV A → List (IV A) → Option R), S args k = F (fun b => k (.d (.bool b)) ys0)) {b : Bool} (hb : F some = some b) (R : Type) (k : Bool → Option R) : F k = k b := by
 let f : (R : Type) → (Bool → Option R) → IV A → List (IV A) → Option R := fun R k r _ => match r with | .d (.bool b) => k b | _ => none
 have h1 := (hF R (f R k)).symm.trans (h args R (f R k))
 have h2 := (hF Bool (f Bool some)).symm.trans (h args Bool (f Bool some))
 have h3 : F (fun b => f R k (.d (.bool b)) ys0) = F k := rfl
 have h4 : F (fun b => f Bool some (.d (.bool b)) ys0) = F some := rfl
 rw [h3] at h1
 rw [h4, hb] at h2
 rw [h1]
 cases ht : S args (fun r ys => some (r, ys)) with
 | none => rw [ht] at h2; cases h2
 | some p =>
  obtain ⟨v, ys⟩ := p
  rw [ht] at h2
  simp only [Option.bind_some] at h2 ⊢
  unfold f at h2 ⊢
  split at h2
  ·cases h2; rfl
  ·cases h2
end Go.Am
set_option linter.unusedVariables false
set_option linter.unusedSimpArgs false
set_option maxRecDepth 100000
namespace Go.Am
open Go
end Go.Am
