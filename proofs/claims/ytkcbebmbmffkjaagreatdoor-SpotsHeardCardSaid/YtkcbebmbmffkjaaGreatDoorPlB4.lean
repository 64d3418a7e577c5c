/- The plain law, in Lean alone: B4, B5. No condition: lemmas for the claim. -/
import Derived.Test.YtkcbebmbmffkjaaGreatDoorPlB3
import Derived.KernelRfl
set_option linter.unusedVariables false
set_option linter.unusedSimpArgs false
set_option maxRecDepth 100000
namespace Go.Am
open Go
def sgn (x : Int) : Int := bif decide (x < 0) then -1 else bif decide (x > 0) then 1 else 0
def cmpI (a b : Int) : Int := bif decide (a < b) then -1 else bif decide (a > b) then 1 else 0
def orL : List Int → Int
 | [] => 0
 | x :: xs => bif x != 0 then x else orL xs
structure Ords {α : Type} (c : α → α → Int) : Prop where
 anti : ∀ x y, c y x = - c x y
 trans : ∀ x y z, c x y ≤ 0 → c y z ≤ 0 → c x z ≤ 0
theorem Ords.pre {α : Type} {c : α → α → Int} (h : Ords c) (S : α → Prop) : Pre c S :=
 ⟨fun x y _ _ => by have := h.anti x y; omega, fun x y z _ _ _ => h.trans x y z, fun x y _ _ => by have := h.anti x y; omega⟩
theorem Ords.refl {α : Type} {c : α → α → Int} (h : Ords c) (x : α) : c x x = 0 := by have := h.anti x x; omega
theorem Ords.on {α β : Type} {c : α → α → Int} (h : Ords c) (f : β → α) : Ords (fun x y => c (f x) (f y)) :=
 ⟨fun x y => h.anti _ _, fun x y z => h.trans _ _ _⟩
theorem Ords.nil {α : Type} : Ords (fun (x y : α) => orL []) := ⟨fun _ _ => by simp [orL], fun _ _ _ _ _ => by simp [orL]⟩
theorem Ords.lex {α : Type} {c : α → α → Int} {l : α → α → List Int} (h : Ords c) (h2 : Ords (fun x y => orL (l x y))) : Ords (fun x y => orL (c x y :: l x y)) := by
 refine ⟨fun x y => ?_, fun x y z => ?_⟩
 ·have a1 := h.anti x y
  have a2 := h2.anti x y
  simp only [orL]
  by_cases e : c x y = 0
  ·have e2 : c y x = 0 := by omega
   simp only [e, e2, bne_self_eq_false, cond_false]; exact a2
  ·have e2 : c y x ≠ 0 := by omega
   have f1 : (c x y != 0) = true := by simpa using e
   have f2 : (c y x != 0) = true := by simpa using e2
   simp only [f1, f2, cond_true]; exact a1
 ·have a1 := h.anti x y
  have a2 := h.anti y z
  have a3 := h.anti x z
  have t1 := h.trans x y z
  have t2 := h.trans z x y
  have t3 := h.trans y z x
  have s := h2.trans x y z
  have q : ∀ a b : Int, (bif a != 0 then a else b) = if a = 0 then b else a := fun a b => by
   by_cases e : a = 0
   ·simp [e]
   ·have : (a != 0) = true := by simpa using e
    rw [this, if_neg e]; rfl
  simp only [orL, q]
  intro h3 h4
  split at h3 <;> split at h4 <;> split <;> omega
theorem ords_cmpI : Ords cmpI := by
 have v : ∀ a b : Int, (a < b ∧ cmpI a b = -1) ∨ (a = b ∧ cmpI a b = 0) ∨ (b < a ∧ cmpI a b = 1) := fun a b => by
  unfold cmpI
  by_cases h1 : a < b
  ·exact .inl ⟨h1, by simp [h1]⟩
  ·by_cases h2 : a > b
   ·exact .inr (.inr ⟨h2, by simp [h1, h2]⟩)
   ·exact .inr (.inl ⟨by omega, by simp [h1, h2]⟩)
 refine ⟨fun x y => ?_, fun x y z => ?_⟩
 ·rcases v x y with ⟨h1, h2⟩ | ⟨h1, h2⟩ | ⟨h1, h2⟩ <;> rcases v y x with ⟨h3, h4⟩ | ⟨h3, h4⟩ | ⟨h3, h4⟩ <;> omega
 ·rcases v x y with ⟨h1, h2⟩ | ⟨h1, h2⟩ | ⟨h1, h2⟩ <;> rcases v y z with ⟨h3, h4⟩ | ⟨h3, h4⟩ | ⟨h3, h4⟩ <;> rcases v x z with ⟨h5, h6⟩ | ⟨h5, h6⟩ | ⟨h5, h6⟩ <;> omega
theorem cmpI_zero {a b : Int} : cmpI a b = 0 ↔ a = b := by
 unfold cmpI
 by_cases h1 : a < b
 ·simp [h1]; omega
 ·by_cases h2 : a > b
  ·simp [h1, h2]; omega
  ·simp [h1, h2]; omega
theorem cb_cases (a b : List UInt8) : Lib.compareBytes a b = -1 ∨ Lib.compareBytes a b = 0 ∨ Lib.compareBytes a b = 1 := by
 induction a generalizing b with
 | nil => cases b <;> simp [Lib.compareBytes]
 | cons x xs ih =>
  cases b with
  | nil => simp [Lib.compareBytes]
  | cons y ys =>
   unfold Lib.compareBytes
   split
   ·exact .inl rfl
   ·split
    ·exact .inr (.inr rfl)
    ·exact ih ys
theorem cb_self : ∀ l : List UInt8, Lib.compareBytes l l = 0
 | [] => rfl
 | x :: xs => by unfold Lib.compareBytes; simp [cb_self xs]
theorem u8 {x y : UInt8} (h1 : ¬ x < y) (h2 : ¬ y < x) : x = y := by
 have e1 : ¬ x.toNat < y.toNat := by simpa [UInt8.lt_iff_toNat_lt] using h1
 have e2 : ¬ y.toNat < x.toNat := by simpa [UInt8.lt_iff_toNat_lt] using h2
 exact UInt8.toNat_inj.1 (by omega)
theorem bytesLess_is : ∀ a b : List UInt8, Op.bytesLess a b = decide (Lib.compareBytes a b < 0)
 | [], [] => by simp [Op.bytesLess, Lib.compareBytes]
 | _ :: _, [] => by simp [Op.bytesLess, Lib.compareBytes]
 | [], _ :: _ => by simp [Op.bytesLess, Lib.compareBytes]
 | x :: xs, y :: ys => by
  unfold Op.bytesLess Lib.compareBytes
  by_cases h1 : x < y
  ·simp [h1]
  ·by_cases h2 : y < x
   ·have h3 : ¬ x = y := fun e => by subst e; exact h1 h2
    simp [h1, h2, h3]
   ·have h3 := u8 h1 h2
    subst h3
    simp [h1, bytesLess_is xs ys]
theorem cb_zero : ∀ a b : List UInt8, Lib.compareBytes a b = 0 → a = b
 | [], [], _ => rfl
 | [], _ :: _, h => by simp [Lib.compareBytes] at h
 | _ :: _, [], h => by simp [Lib.compareBytes] at h
 | x :: xs, y :: ys, h => by
  unfold Lib.compareBytes at h
  split at h
  ·cases h
  ·split at h
   ·cases h
   ·rename_i h1 h2
    rw [u8 h1 h2, cb_zero xs ys h]
theorem cb_anti : ∀ a b : List UInt8, Lib.compareBytes b a = - Lib.compareBytes a b
 | [], [] => rfl
 | [], _ :: _ => by simp [Lib.compareBytes]
 | _ :: _, [] => by simp [Lib.compareBytes]
 | x :: xs, y :: ys => by
  unfold Lib.compareBytes
  by_cases h1 : x < y
  ·have h2 : ¬ y < x := by
    intro h
    have a := UInt8.lt_iff_toNat_lt.1 h1
    have b := UInt8.lt_iff_toNat_lt.1 h
    omega
   simp [h1, h2]
  ·by_cases h2 : y < x
   ·simp [h1, h2]
   ·simp only [h1, h2, if_false]
    exact cb_anti xs ys
theorem cb_trans : ∀ a b c : List UInt8, Lib.compareBytes a b ≤ 0 → Lib.compareBytes b c ≤ 0 → Lib.compareBytes a c ≤ 0
 | [], _, [], _, _ => by simp [Lib.compareBytes]
 | [], _, _ :: _, _, _ => by simp [Lib.compareBytes]
 | x :: xs, [], _, h, _ => by simp [Lib.compareBytes] at h
 | x :: xs, y :: ys, [], _, h => by simp [Lib.compareBytes] at h
 | x :: xs, y :: ys, z :: zs, h1, h2 => by
  unfold Lib.compareBytes at h1 h2 ⊢
  have ll := @UInt8.lt_iff_toNat_lt
  by_cases a1 : x < y
  ·by_cases b1 : y < z
   ·have : x < z := by rw [ll] at *; omega
    simp [this]
   ·by_cases b2 : z < y
    ·simp [b1, b2] at h2
    ·have : x < z := by rw [ll] at *; omega
     simp [this]
  ·by_cases a2 : y < x
   ·simp [a1, a2] at h1
   ·simp only [a1, a2, if_false] at h1
    by_cases b1 : y < z
    ·have : x < z := by rw [ll] at *; omega
     simp [this]
    ·by_cases b2 : z < y
     ·simp [b1, b2] at h2
     ·simp only [b1, b2, if_false] at h2
      have c1 : ¬ x < z := by rw [ll] at *; omega
      have c2 : ¬ z < x := by rw [ll] at *; omega
      simp only [c1, c2, if_false]
      exact cb_trans xs ys zs h1 h2
theorem ords_cb : Ords Lib.compareBytes := ⟨fun x y => cb_anti x y, cb_trans⟩
theorem cb_eq_zero {a b : List UInt8} : Lib.compareBytes a b = 0 ↔ a = b := ⟨cb_zero a b, fun h => by rw [h]; exact cb_self b⟩
theorem orL_zero {l : List Int} : orL l = 0 ↔ ∀ x ∈ l, x = 0 := by
 induction l with
 | nil => simp [orL]
 | cons x xs ih =>
  unfold orL
  by_cases h : x = 0
  ·simp [h, ih]
  ·have : (x != 0) = true := by simpa using h
   rw [this]; simp [h]
def aget {K V : Type} (eq : K → K → Bool) (x : K) : List (K × V) → Option V
 | [] => none
 | p :: ps => bif eq x p.1 then some p.2 else aget eq x ps
def aset {K V : Type} (eq : K → K → Bool) (x : K) (y : V) : List (K × V) → List (K × V)
 | [] => [(x, y)]
 | p :: ps => bif eq x p.1 then (x, y) :: ps else p :: aset eq x y ps
theorem aget_aset {K V : Type} {eq : K → K → Bool} (h : ∀ x y, eq x y = true ↔ x = y) (w x : K) (y : V) : ∀ m : List (K × V), aget eq w (aset eq x y m) = bif eq w x then some y else aget eq w m
 | [] => by simp [aset, aget]
 | p :: ps => by
  unfold aset
  cases hx : eq x p.1 with
  | true =>
   have := (h x p.1).1 hx
   simp only [cond_true, aget]
   rw [← this]
   cases eq w x <;> rfl
  | false =>
   simp only [cond_false, aget]
   rw [aget_aset h w x y ps]
   cases hw : eq w p.1 with
   | true =>
    have e := (h w p.1).1 hw
    have : eq w x = false := by
     cases hq : eq w x with
     | false => rfl
     | true =>
      have e2 := (h w x).1 hq
      rw [← e, ← e2, (h w w).2 rfl] at hx
      cases hx
    rw [this]; rfl
   | false => rfl
variable {A : Nat → Type}
theorem nat_bool {S : Spec A} (h : NatSpec S) {args : List (IV A)} {ys0 : List (IV A)} {F : {R : Type} → (Bool → Option R) → Option R} (hF : ∀ (R : Type) (k : IV A → List (IV A) → Option R), S args k = F (fun b => k (.d (.bool b)) ys0)) {b : Bool} (hb : F some = some b) (R : Type) (k : Bool → Option R) : F k = k b := by
 let f : (R : Type) → (Bool → Option R) → IV A → List (IV A) → Option R := fun R k r _ => match r with | .d (.bool b) => k b | _ => none
 have h1 := (hF R (f R k)).symm.trans (h args R (f R k))
 have h2 := (hF Bool (f Bool some)).symm.trans (h args Bool (f Bool some))
 have h3 : F (fun b => f R k (.d (.bool b)) ys0) = F k := rfl
 have h4 : F (fun b => f Bool some (.d (.bool b)) ys0) = F some := rfl
 rw [h3] at h1
 rw [h4, hb] at h2
 rw [h1]
 cases ht : S args (fun r ys => some (r, ys)) with
 | none => rw [ht] at h2; cases h2
 | some p =>
  obtain ⟨v, ys⟩ := p
  rw [ht] at h2
  simp only [Option.bind_some] at h2 ⊢
  unfold f at h2 ⊢
  split at h2
  ·cases h2; rfl
  ·cases h2
end Go.Am
set_option linter.unusedVariables false
set_option linter.unusedSimpArgs false
set_option maxRecDepth 100000
namespace Go.Am
open Go
theorem sorted_one {α : Type} {c : α → α → Int} (h : Ords c) {xs ys : List α} (hz : ∀ x ∈ ys, ∀ y ∈ ys, c x y = 0 → x = y) (hp : xs.Perm ys) (h1 : xs.Pairwise fun a b => c a b ≤ 0) (h2 : ys.Pairwise fun a b => c a b ≤ 0) : xs = ys :=
 List.Perm.eq_of_pairwise (le := fun a b => c a b ≤ 0) (fun a b ha hb h3 h4 => hz a (hp.mem_iff.1 ha) b hb (by have := h.anti a b; omega)) h1 h2 hp
theorem X_sortf_one {α : Type} {call : CmpT α} {xs : List α} {c : α → α → Int} (h : Ords c) (hl : xs.length ≤ 1000000) (hz : ∀ x ∈ xs, ∀ y ∈ xs, c x y = 0 → x = y) (hc : ∀ x ∈ xs, ∀ y ∈ xs, ∀ (R : Type) (k : Int → Option R), call x y k = k (c x y)) {R : Type} (k : List α → Option R) : X_sortf call xs k = k (sortI c xs) := by
 obtain ⟨ys, g1, g2, g3⟩ := X_sortf_is (by omega) hc (h.pre (· ∈ xs))
 have hs := sortI_sorted (h.pre (fun _ => True)) xs (fun _ _ => trivial)
 have hpm := sortI_perm c xs
 rw [g3, sorted_one h (fun x hx y hy => hz x (hpm.mem_iff.1 hx) y (hpm.mem_iff.1 hy)) (g1.trans hpm.symm) g2 hs]
end Go.Am
