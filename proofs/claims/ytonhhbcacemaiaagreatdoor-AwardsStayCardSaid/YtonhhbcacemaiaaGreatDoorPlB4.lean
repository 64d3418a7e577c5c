/- The plain law, in Lean alone: B4, B5. No condition: lemmas for the claim. -/
import Derived.Test.YtonhhbcacemaiaaGreatDoorPlB3
import Derived.KernelRfl
set_option linter.unusedVariables false
set_option linter.unusedSimpArgs false
set_option maxRecDepth 100000
namespace Go.Am
open Go
def sgn (x : Int) : Int := bif decide (x < 0) then -1 else bif decide (x > 0) then 1 else 0
def cmpI (a b : Int) : Int := bif decide (a < b) then -1 else bif decide (a > b) then 1 else 0
def orL : List Int → Int
 | [] => 0
 | x :: xs => bif x != 0 then x else orL xs
structure Ords {α : Type} (c : α → α → Int) : Prop where
 anti : ∀ x y, c y x = - c x y
 trans : ∀ x y z, c x y ≤ 0 → c y z ≤ 0 → c x z ≤ 0
theorem Ords.refl {α : Type} {c : α → α → Int} (h : Ords c) (x : α) : c x x = 0 := by have := h.anti x x; omega
theorem Ords.nil {α : Type} : Ords (fun (x y : α) => orL []) := ⟨fun _ _ => by simp [orL], fun _ _ _ _ _ => by simp [orL]⟩
theorem cmpI_zero {a b : Int} : cmpI a b = 0 ↔ a = b := by
 unfold cmpI
 by_cases h1 : a < b
 ·simp [h1]; omega
 ·by_cases h2 : a > b
  ·simp [h1, h2]; omega
  ·simp [h1, h2]; omega
theorem cb_self : ∀ l : List UInt8, Lib.compareBytes l l = 0
 | [] => rfl
 | x :: xs => by unfold Lib.compareBytes; simp [cb_self xs]
theorem u8 {x y : UInt8} (h1 : ¬ x < y) (h2 : ¬ y < x) : x = y := by
 have e1 : ¬ x.toNat < y.toNat := by simpa [UInt8.lt_iff_toNat_lt] using h1
 have e2 : ¬ y.toNat < x.toNat := by simpa [UInt8.lt_iff_toNat_lt] using h2
 exact UInt8.toNat_inj.1 (by omega)
theorem cb_zero : ∀ a b : List UInt8, Lib.compareBytes a b = 0 → a = b
 | [], [], _ => rfl
 | [], _ :: _, h => by simp [Lib.compareBytes] at h
 | _ :: _, [], h => by simp [Lib.compareBytes] at h
 | x :: xs, y :: ys, h => by
  unfold Lib.compareBytes at h
  split at h
  ·cases h
  ·split at h
   ·cases h
   ·rename_i h1 h2
    rw [u8 h1 h2, cb_zero xs ys h]
theorem sgn_cmp {a b : Int} (h1 : -4398046511104 ≤ a ∧ a ≤ 4398046511104) (h2 : -4398046511104 ≤ b ∧ b ≤ 4398046511104) : sgn (w64 (a - b)) = cmpI a b := by
 rw [w64_eq (by omega) (by omega)]
 unfold sgn cmpI
 by_cases h1 : a < b
 ·have : a - b < 0 := by omega
  simp [h1, this]
 ·have g1 : ¬ a - b < 0 := by omega
  by_cases h2 : a > b
  ·have : a - b > 0 := by omega
   simp [h1, h2, g1, this]
  ·have : ¬ a - b > 0 := by omega
   simp [h1, h2, g1, this]
theorem ne_cmpI (a b : Int) : (a != b) = (cmpI a b != 0) := by
 rw [Bool.eq_iff_iff]; simp [cmpI_zero]
theorem cb_eq_zero {a b : List UInt8} : Lib.compareBytes a b = 0 ↔ a = b := ⟨cb_zero a b, fun h => by rw [h]; exact cb_self b⟩
theorem ne_cb (a b : List UInt8) : (!(a == b)) = (Lib.compareBytes a b != 0) := by
 rw [Bool.eq_iff_iff]; simp [cb_eq_zero]
theorem orL_zero {l : List Int} : orL l = 0 ↔ ∀ x ∈ l, x = 0 := by
 induction l with
 | nil => simp [orL]
 | cons x xs ih =>
  unfold orL
  by_cases h : x = 0
  ·simp [h, ih]
  ·have : (x != 0) = true := by simpa using h
   rw [this]; simp [h]
def aget {K V : Type} (eq : K → K → Bool) (x : K) : List (K × V) → Option V
 | [] => none
 | p :: ps => bif eq x p.1 then some p.2 else aget eq x ps
def aset {K V : Type} (eq : K → K → Bool) (x : K) (y : V) : List (K × V) → List (K × V)
 | [] => [(x, y)]
 | p :: ps => bif eq x p.1 then (x, y) :: ps else p :: aset eq x y ps
theorem aget_aset {K V : Type} {eq : K → K → Bool} (h : ∀ x y, eq x y = true ↔ x = y) (w x : K) (y : V) : ∀ m : List (K × V), aget eq w (aset eq x y m) = bif eq w x then some y else aget eq w m
 | [] => by simp [aset, aget]
 | p :: ps => by
  unfold aset
  cases hx : eq x p.1 with
  | true =>
   have := (h x p.1).1 hx
   simp only [cond_true, aget]
   rw [← this]
   cases eq w x <;> rfl
  | false =>
   simp only [cond_false, aget]
   rw [aget_aset h w x y ps]
   cases hw : eq w p.1 with
   | true =>
    have e := (h w p.1).1 hw
    have : eq w x = false := by
     cases hq : eq w x with
     | false => rfl
     | true =>
      have e2 := (h w x).1 hq
      rw [← e, ← e2, (h w w).2 rfl] at hx
      cases hx
    rw [this]; rfl
   | false => rfl
variable {A : Nat → Type}
theorem nat_bool {S : Spec A} (h : NatSpec S) {args : List (IV A)} {ys0 : List (IV A)} {F : {R : Type} → (Bool → Option R) → Option R} (hF : ∀ (R : Type) (k : IV A → List (IV A) → Option R), S args k = F (fun b => k (.d (.bool b)) ys0)) {b : Bool} (hb : F some = some b) (R : Type) (k : Bool → Option R) : F k = k b := by
 let f : (R : Type) → (Bool → Option R) → IV A → List (IV A) → Option R := fun R k r _ => match r with | .d (.bool b) => k b | _ => none
 have h1 := (hF R (f R k)).symm.trans (h args R (f R k))
 have h2 := (hF Bool (f Bool some)).symm.trans (h args Bool (f Bool some))
 have h3 : F (fun b => f R k (.d (.bool b)) ys0) = F k := rfl
 have h4 : F (fun b => f Bool some (.d (.bool b)) ys0) = F some := rfl
 rw [h3] at h1
 rw [h4, hb] at h2
 rw [h1]
 cases ht : S args (fun r ys => some (r, ys)) with
 | none => rw [ht] at h2; cases h2
 | some p =>
  obtain ⟨v, ys⟩ := p
  rw [ht] at h2
  simp only [Option.bind_some] at h2 ⊢
  unfold f at h2 ⊢
  split at h2
  ·cases h2; rfl
  ·cases h2
theorem nat_str {S : Spec A} (h : NatSpec S) {args : List (IV A)} {ys0 : List (IV A)} {F : {R : Type} → (List UInt8 → Option R) → Option R} (hF : ∀ (R : Type) (k : IV A → List (IV A) → Option R), S args k = F (fun b => k (.d (.str b)) ys0)) {b : List UInt8} (hb : F some = some b) (R : Type) (k : List UInt8 → Option R) : F k = k b := by
 let f : (R : Type) → (List UInt8 → Option R) → IV A → List (IV A) → Option R := fun R k r _ => match r with | .d (.str b) => k b | _ => none
 have h1 := (hF R (f R k)).symm.trans (h args R (f R k))
 have h2 := (hF _ (f _ some)).symm.trans (h args _ (f _ some))
 have h3 : F (fun b => f R k (.d (.str b)) ys0) = F k := rfl
 have h4 : F (fun b => f _ some (.d (.str b)) ys0) = F some := rfl
 rw [h3] at h1
 rw [h4, hb] at h2
 rw [h1]
 cases ht : S args (fun r ys => some (r, ys)) with
 | none => rw [ht] at h2; cases h2
 | some p =>
  obtain ⟨v, ys⟩ := p
  rw [ht] at h2
  simp only [Option.bind_some] at h2 ⊢
  unfold f at h2 ⊢
  split at h2
  ·cases h2; rfl
  ·cases h2
end Go.Am
set_option linter.unusedVariables false
set_option linter.unusedSimpArgs false
set_option maxRecDepth 100000
namespace Go.Am
open Go
end Go.Am
