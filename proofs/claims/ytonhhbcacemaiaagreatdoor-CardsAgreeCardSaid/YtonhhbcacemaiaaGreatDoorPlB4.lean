/- The plain law, in Lean alone: B4, B5, B7. No condition: lemmas for the claim. -/
import Derived.Test.YtonhhbcacemaiaaGreatDoorPlB3
import Derived.KernelRfl
set_option linter.unusedVariables false
set_option linter.unusedSimpArgs false
set_option maxRecDepth 100000
namespace Go.Am
open Go
def sgn (x : Int) : Int := bif decide (x < 0) then -1 else bif decide (x > 0) then 1 else 0
def cmpI (a b : Int) : Int := bif decide (a < b) then -1 else bif decide (a > b) then 1 else 0
def orL : List Int → Int
 | [] => 0
 | x :: xs => bif x != 0 then x else orL xs
structure Ords {α : Type} (c : α → α → Int) : Prop where
 anti : ∀ x y, c y x = - c x y
 trans : ∀ x y z, c x y ≤ 0 → c y z ≤ 0 → c x z ≤ 0
theorem Ords.pre {α : Type} {c : α → α → Int} (h : Ords c) (S : α → Prop) : Pre c S :=
 ⟨fun x y _ _ => by have := h.anti x y; omega, fun x y z _ _ _ => h.trans x y z, fun x y _ _ => by have := h.anti x y; omega⟩
theorem Ords.refl {α : Type} {c : α → α → Int} (h : Ords c) (x : α) : c x x = 0 := by have := h.anti x x; omega
theorem Ords.on {α β : Type} {c : α → α → Int} (h : Ords c) (f : β → α) : Ords (fun x y => c (f x) (f y)) :=
 ⟨fun x y => h.anti _ _, fun x y z => h.trans _ _ _⟩
theorem Ords.nil {α : Type} : Ords (fun (x y : α) => orL []) := ⟨fun _ _ => by simp [orL], fun _ _ _ _ _ => by simp [orL]⟩
theorem Ords.lex {α : Type} {c : α → α → Int} {l : α → α → List Int} (h : Ords c) (h2 : Ords (fun x y => orL (l x y))) : Ords (fun x y => orL (c x y :: l x y)) := by
 refine ⟨fun x y => ?_, fun x y z => ?_⟩
 ·have a1 := h.anti x y
  have a2 := h2.anti x y
  simp only [orL]
  by_cases e : c x y = 0
  ·have e2 : c y x = 0 := by omega
   simp only [e, e2, bne_self_eq_false, cond_false]; exact a2
  ·have e2 : c y x ≠ 0 := by omega
   have f1 : (c x y != 0) = true := by simpa using e
   have f2 : (c y x != 0) = true := by simpa using e2
   simp only [f1, f2, cond_true]; exact a1
 ·have a1 := h.anti x y
  have a2 := h.anti y z
  have a3 := h.anti x z
  have t1 := h.trans x y z
  have t2 := h.trans z x y
  have t3 := h.trans y z x
  have s := h2.trans x y z
  have q : ∀ a b : Int, (bif a != 0 then a else b) = if a = 0 then b else a := fun a b => by
   by_cases e : a = 0
   ·simp [e]
   ·have : (a != 0) = true := by simpa using e
    rw [this, if_neg e]; rfl
  simp only [orL, q]
  intro h3 h4
  split at h3 <;> split at h4 <;> split <;> omega
theorem ords_cmpI : Ords cmpI := by
 have v : ∀ a b : Int, (a < b ∧ cmpI a b = -1) ∨ (a = b ∧ cmpI a b = 0) ∨ (b < a ∧ cmpI a b = 1) := fun a b => by
  unfold cmpI
  by_cases h1 : a < b
  ·exact .inl ⟨h1, by simp [h1]⟩
  ·by_cases h2 : a > b
   ·exact .inr (.inr ⟨h2, by simp [h1, h2]⟩)
   ·exact .inr (.inl ⟨by omega, by simp [h1, h2]⟩)
 refine ⟨fun x y => ?_, fun x y z => ?_⟩
 ·rcases v x y with ⟨h1, h2⟩ | ⟨h1, h2⟩ | ⟨h1, h2⟩ <;> rcases v y x with ⟨h3, h4⟩ | ⟨h3, h4⟩ | ⟨h3, h4⟩ <;> omega
 ·rcases v x y with ⟨h1, h2⟩ | ⟨h1, h2⟩ | ⟨h1, h2⟩ <;> rcases v y z with ⟨h3, h4⟩ | ⟨h3, h4⟩ | ⟨h3, h4⟩ <;> rcases v x z with ⟨h5, h6⟩ | ⟨h5, h6⟩ | ⟨h5, h6⟩ <;> omega
theorem cmpI_zero {a b : Int} : cmpI a b = 0 ↔ a = b := by
 unfold cmpI
 by_cases h1 : a < b
 ·simp [h1]; omega
 ·by_cases h2 : a > b
  ·simp [h1, h2]; omega
  ·simp [h1, h2]; omega
theorem cb_self : ∀ l : List UInt8, Lib.compareBytes l l = 0
 | [] => rfl
 | x :: xs => by unfold Lib.compareBytes; simp [cb_self xs]
theorem u8 {x y : UInt8} (h1 : ¬ x < y) (h2 : ¬ y < x) : x = y := by
 have e1 : ¬ x.toNat < y.toNat := by simpa [UInt8.lt_iff_toNat_lt] using h1
 have e2 : ¬ y.toNat < x.toNat := by simpa [UInt8.lt_iff_toNat_lt] using h2
 exact UInt8.toNat_inj.1 (by omega)
theorem cb_zero : ∀ a b : List UInt8, Lib.compareBytes a b = 0 → a = b
 | [], [], _ => rfl
 | [], _ :: _, h => by simp [Lib.compareBytes] at h
 | _ :: _, [], h => by simp [Lib.compareBytes] at h
 | x :: xs, y :: ys, h => by
  unfold Lib.compareBytes at h
  split at h
  ·cases h
  ·split at h
   ·cases h
   ·rename_i h1 h2
    rw [u8 h1 h2, cb_zero xs ys h]
theorem cb_anti : ∀ a b : List UInt8, Lib.compareBytes b a = - Lib.compareBytes a b
 | [], [] => rfl
 | [], _ :: _ => by simp [Lib.compareBytes]
 | _ :: _, [] => by simp [Lib.compareBytes]
 | x :: xs, y :: ys => by
  unfold Lib.compareBytes
  by_cases h1 : x < y
  ·have h2 : ¬ y < x := by
    intro h
    have a := UInt8.lt_iff_toNat_lt.1 h1
    have b := UInt8.lt_iff_toNat_lt.1 h
    omega
   simp [h1, h2]
  ·by_cases h2 : y < x
   ·simp [h1, h2]
   ·simp only [h1, h2, if_false]
    exact cb_anti xs ys
theorem cb_trans : ∀ a b c : List UInt8, Lib.compareBytes a b ≤ 0 → Lib.compareBytes b c ≤ 0 → Lib.compareBytes a c ≤ 0
 | [], _, [], _, _ => by simp [Lib.compareBytes]
 | [], _, _ :: _, _, _ => by simp [Lib.compareBytes]
 | x :: xs, [], _, h, _ => by simp [Lib.compareBytes] at h
 | x :: xs, y :: ys, [], _, h => by simp [Lib.compareBytes] at h
 | x :: xs, y :: ys, z :: zs, h1, h2 => by
  unfold Lib.compareBytes at h1 h2 ⊢
  have ll := @UInt8.lt_iff_toNat_lt
  by_cases a1 : x < y
  ·by_cases b1 : y < z
   ·have : x < z := by rw [ll] at *; omega
    simp [this]
   ·by_cases b2 : z < y
    ·simp [b1, b2] at h2
    ·have : x < z := by rw [ll] at *; omega
     simp [this]
  ·by_cases a2 : y < x
   ·simp [a1, a2] at h1
   ·simp only [a1, a2, if_false] at h1
    by_cases b1 : y < z
    ·have : x < z := by rw [ll] at *; omega
     simp [this]
    ·by_cases b2 : z < y
     ·simp [b1, b2] at h2
     ·simp only [b1, b2, if_false] at h2
      have c1 : ¬ x < z := by rw [ll] at *; omega
      have c2 : ¬ z < x := by rw [ll] at *; omega
      simp only [c1, c2, if_false]
      exact cb_trans xs ys zs h1 h2
theorem ords_cb : Ords Lib.compareBytes := ⟨fun x y => cb_anti x y, cb_trans⟩
theorem sgn_cmp {a b : Int} (h1 : -4398046511104 ≤ a ∧ a ≤ 4398046511104) (h2 : -4398046511104 ≤ b ∧ b ≤ 4398046511104) : sgn (w64 (a - b)) = cmpI a b := by
 rw [w64_eq (by omega) (by omega)]
 unfold sgn cmpI
 by_cases h1 : a < b
 ·have : a - b < 0 := by omega
  simp [h1, this]
 ·have g1 : ¬ a - b < 0 := by omega
  by_cases h2 : a > b
  ·have : a - b > 0 := by omega
   simp [h1, h2, g1, this]
  ·have : ¬ a - b > 0 := by omega
   simp [h1, h2, g1, this]
theorem ne_cmpI (a b : Int) : (a != b) = (cmpI a b != 0) := by
 rw [Bool.eq_iff_iff]; simp [cmpI_zero]
theorem cb_eq_zero {a b : List UInt8} : Lib.compareBytes a b = 0 ↔ a = b := ⟨cb_zero a b, fun h => by rw [h]; exact cb_self b⟩
theorem ne_cb (a b : List UInt8) : (!(a == b)) = (Lib.compareBytes a b != 0) := by
 rw [Bool.eq_iff_iff]; simp [cb_eq_zero]
theorem orL_zero {l : List Int} : orL l = 0 ↔ ∀ x ∈ l, x = 0 := by
 induction l with
 | nil => simp [orL]
 | cons x xs ih =>
  unfold orL
  by_cases h : x = 0
  ·simp [h, ih]
  ·have : (x != 0) = true := by simpa using h
   rw [this]; simp [h]
def aget {K V : Type} (eq : K → K → Bool) (x : K) : List (K × V) → Option V
 | [] => none
 | p :: ps => bif eq x p.1 then some p.2 else aget eq x ps
def aset {K V : Type} (eq : K → K → Bool) (x : K) (y : V) : List (K × V) → List (K × V)
 | [] => [(x, y)]
 | p :: ps => bif eq x p.1 then (x, y) :: ps else p :: aset eq x y ps
theorem aget_aset {K V : Type} {eq : K → K → Bool} (h : ∀ x y, eq x y = true ↔ x = y) (w x : K) (y : V) : ∀ m : List (K × V), aget eq w (aset eq x y m) = bif eq w x then some y else aget eq w m
 | [] => by simp [aset, aget]
 | p :: ps => by
  unfold aset
  cases hx : eq x p.1 with
  | true =>
   have := (h x p.1).1 hx
   simp only [cond_true, aget]
   rw [← this]
   cases eq w x <;> rfl
  | false =>
   simp only [cond_false, aget]
   rw [aget_aset h w x y ps]
   cases hw : eq w p.1 with
   | true =>
    have e := (h w p.1).1 hw
    have : eq w x = false := by
     cases hq : eq w x with
     | false => rfl
     | true =>
      have e2 := (h w x).1 hq
      rw [← e, ← e2, (h w w).2 rfl] at hx
      cases hx
    rw [this]; rfl
   | false => rfl
variable {A : Nat → Type}
theorem nat_bool {S : Spec A} (h : NatSpec S) {args : List (IV A)} {ys0 : List (IV A)} {F : {R : Type} → (Bool → Option R) → Option R} (hF : ∀ (R : Type) (k : IV A → List (IV A) → Option R), S args k = F (fun b => k (.d (.bool b)) ys0)) {b : Bool} (hb : F some = some b) (R : Type) (k : Bool → Option R) : F k = k b := by
 let f : (R : Type) → (Bool → Option R) → IV A → List (IV A) → Option R := fun R k r _ => match r with | .d (.bool b) => k b | _ => none
 have h1 := (hF R (f R k)).symm.trans (h args R (f R k))
 have h2 := (hF Bool (f Bool some)).symm.trans (h args Bool (f Bool some))
 have h3 : F (fun b => f R k (.d (.bool b)) ys0) = F k := rfl
 have h4 : F (fun b => f Bool some (.d (.bool b)) ys0) = F some := rfl
 rw [h3] at h1
 rw [h4, hb] at h2
 rw [h1]
 cases ht : S args (fun r ys => some (r, ys)) with
 | none => rw [ht] at h2; cases h2
 | some p =>
  obtain ⟨v, ys⟩ := p
  rw [ht] at h2
  simp only [Option.bind_some] at h2 ⊢
  unfold f at h2 ⊢
  split at h2
  ·cases h2; rfl
  ·cases h2
theorem nat_str {S : Spec A} (h : NatSpec S) {args : List (IV A)} {ys0 : List (IV A)} {F : {R : Type} → (List UInt8 → Option R) → Option R} (hF : ∀ (R : Type) (k : IV A → List (IV A) → Option R), S args k = F (fun b => k (.d (.str b)) ys0)) {b : List UInt8} (hb : F some = some b) (R : Type) (k : List UInt8 → Option R) : F k = k b := by
 let f : (R : Type) → (List UInt8 → Option R) → IV A → List (IV A) → Option R := fun R k r _ => match r with | .d (.str b) => k b | _ => none
 have h1 := (hF R (f R k)).symm.trans (h args R (f R k))
 have h2 := (hF _ (f _ some)).symm.trans (h args _ (f _ some))
 have h3 : F (fun b => f R k (.d (.str b)) ys0) = F k := rfl
 have h4 : F (fun b => f _ some (.d (.str b)) ys0) = F some := rfl
 rw [h3] at h1
 rw [h4, hb] at h2
 rw [h1]
 cases ht : S args (fun r ys => some (r, ys)) with
 | none => rw [ht] at h2; cases h2
 | some p =>
  obtain ⟨v, ys⟩ := p
  rw [ht] at h2
  simp only [Option.bind_some] at h2 ⊢
  unfold f at h2 ⊢
  split at h2
  ·cases h2; rfl
  ·cases h2
end Go.Am
set_option linter.unusedVariables false
set_option linter.unusedSimpArgs false
set_option maxRecDepth 100000
namespace Go.Am
open Go
theorem sorted_one {α : Type} {c : α → α → Int} (h : Ords c) {xs ys : List α} (hz : ∀ x ∈ ys, ∀ y ∈ ys, c x y = 0 → x = y) (hp : xs.Perm ys) (h1 : xs.Pairwise fun a b => c a b ≤ 0) (h2 : ys.Pairwise fun a b => c a b ≤ 0) : xs = ys :=
 List.Perm.eq_of_pairwise (le := fun a b => c a b ≤ 0) (fun a b ha hb h3 h4 => hz a (hp.mem_iff.1 ha) b hb (by have := h.anti a b; omega)) h1 h2 hp
theorem X_sortf_one {α : Type} {call : CmpT α} {xs : List α} {c : α → α → Int} (h : Ords c) (hl : xs.length ≤ 1000000) (hz : ∀ x ∈ xs, ∀ y ∈ xs, c x y = 0 → x = y) (hc : ∀ x ∈ xs, ∀ y ∈ xs, ∀ (R : Type) (k : Int → Option R), call x y k = k (c x y)) {R : Type} (k : List α → Option R) : X_sortf call xs k = k (sortI c xs) := by
 obtain ⟨ys, g1, g2, g3⟩ := X_sortf_is (by omega) hc (h.pre (· ∈ xs))
 have hs := sortI_sorted (h.pre (fun _ => True)) xs (fun _ _ => trivial)
 have hpm := sortI_perm c xs
 rw [g3, sorted_one h (fun x hx y hy => hz x (hpm.mem_iff.1 hx) y (hpm.mem_iff.1 hy)) (g1.trans hpm.symm) g2 hs]
end Go.Am
set_option linter.unusedVariables false
set_option linter.unusedSectionVars false
set_option linter.unusedSimpArgs false
namespace Go.Am
open Go
theorem ords_lt_trans {α : Type} {c : α → α → Int} (h : Ords c) (hz : ∀ x y, c x y = 0 → x = y) {x y z : α} (h1 : c x y < 0) (h2 : c y z < 0) : c x z < 0 := by
 have h3 := h.trans x y z (by omega) (by omega)
 rcases Int.lt_or_eq_of_le h3 with h4 | h4
 ·exact h4
 ·have := hz x z h4
  subst this
  have := h.anti x y
  omega
theorem dedup_strict {α : Type} {c : α → α → Int} (h : Ords c) (hz : ∀ x y, c x y = 0 → x = y) {eq : α → α → Bool} (he : ∀ x y, eq x y = true ↔ x = y) : ∀ (l : List α) (p : α), (p :: l).Pairwise (fun a b => c a b ≤ 0) →
  (dedupFrom eq p l).Pairwise (fun a b => c a b < 0) ∧ (∀ x ∈ dedupFrom eq p l, c p x < 0) ∧ ∀ x ∈ l, x = p ∨ x ∈ dedupFrom eq p l
 | [], p, _ => ⟨.nil, (fun x h => by cases h), (fun x h => by cases h)⟩
 | y :: ys, p, hs => by
  have h1 := List.pairwise_cons.1 hs
  have hpy := h1.1 y (by simp)
  unfold dedupFrom
  obtain ⟨g1, g2, g3⟩ := dedup_strict h hz he ys y h1.2
  by_cases hy : eq y p = true
  ·rw [hy]
   have := (he y p).1 hy
   subst this
   simp only [if_true]
   refine ⟨g1, g2, fun x hx => ?_⟩
   rcases List.mem_cons.1 hx with rfl | hx
   ·exact .inl rfl
   ·exact g3 x hx
  ·have hn : c p y < 0 := by
    rcases Int.lt_or_eq_of_le hpy with h4 | h4
    ·exact h4
    ·exact absurd ((he y p).2 (hz p y h4).symm) hy
   simp only [hy, if_false]
   refine ⟨List.pairwise_cons.2 ⟨g2, g1⟩, fun x hx => ?_, fun x hx => ?_⟩
   ·rcases List.mem_cons.1 hx with rfl | hx
    ·exact hn
    ·exact ords_lt_trans h hz hn (g2 x hx)
   ·rcases List.mem_cons.1 hx with rfl | hx
    ·exact .inr (by simp)
    ·rcases g3 x hx with rfl | hx
     ·exact .inr (by simp)
     ·exact .inr (by simp [hx])
theorem compact_strict {α : Type} {c : α → α → Int} (h : Ords c) (hz : ∀ x y, c x y = 0 → x = y) {eq : α → α → Bool} (he : ∀ x y, eq x y = true ↔ x = y) {l : List α} (hs : l.Pairwise fun a b => c a b ≤ 0) :
  (compactP eq l).Pairwise (fun a b => c a b < 0) ∧ ∀ x, x ∈ compactP eq l ↔ x ∈ l := by
 cases l with
 | nil => exact ⟨.nil, fun x => Iff.rfl⟩
 | cons p l =>
  obtain ⟨g1, g2, g3⟩ := dedup_strict h hz he l p hs
  refine ⟨List.pairwise_cons.2 ⟨g2, g1⟩, fun x => ⟨fun hx => compactP_sub hx, fun hx => ?_⟩⟩
  rcases List.mem_cons.1 hx with rfl | hx
  ·exact List.mem_cons_self
  ·rcases g3 x hx with rfl | hx
   ·exact List.mem_cons_self
   ·exact List.mem_cons_of_mem _ hx
theorem strict_one {α : Type} {c : α → α → Int} (h : Ords c) : ∀ {xs ys : List α}, xs.Pairwise (fun a b => c a b < 0) → ys.Pairwise (fun a b => c a b < 0) → (∀ x, x ∈ xs ↔ x ∈ ys) → xs = ys
 | [], [], _, _, _ => rfl
 | [], y :: ys, _, _, hm => by have := (hm y).2 (by simp); cases this
 | x :: xs, [], _, _, hm => by have := (hm x).1 (by simp); cases this
 | x :: xs, y :: ys, h1, h2, hm => by
  have p1 := List.pairwise_cons.1 h1
  have p2 := List.pairwise_cons.1 h2
  have self : ∀ z, ¬ c z z < 0 := fun z => by have := h.refl z; omega
  have e : x = y := by
   rcases List.mem_cons.1 ((hm x).1 (by simp)) with hx | hx
   ·exact hx
   ·rcases List.mem_cons.1 ((hm y).2 (by simp)) with hy | hy
    ·exact hy.symm
    ·have a := p2.1 x hx
     have b := p1.1 y hy
     have := h.anti x y
     omega
  subst e
  rw [strict_one h p1.2 p2.2 fun z => ?_]
  constructor
  ·intro hz
   rcases List.mem_cons.1 ((hm z).1 (by simp [hz])) with rfl | hz2
   ·exact absurd (p1.1 z hz) (self z)
   ·exact hz2
  ·intro hz
   rcases List.mem_cons.1 ((hm z).2 (by simp [hz])) with rfl | hz2
   ·exact absurd (p2.1 z hz) (self z)
   ·exact hz2
end Go.Am
