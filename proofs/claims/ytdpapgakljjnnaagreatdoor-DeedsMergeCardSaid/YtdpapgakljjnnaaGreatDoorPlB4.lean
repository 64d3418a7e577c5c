/- The plain law, in Lean alone: B4, B5, B6, B7, B8, B9. No condition: lemmas for the claim. -/
import Derived.Test.YtdpapgakljjnnaaGreatDoorPlB1
import Derived.KernelRfl
set_option linter.unusedVariables false
set_option linter.unusedSimpArgs false
set_option maxRecDepth 100000
namespace Go.Am
open Go
def sgn (x : Int) : Int := bif decide (x < 0) then -1 else bif decide (x > 0) then 1 else 0
def cmpI (a b : Int) : Int := bif decide (a < b) then -1 else bif decide (a > b) then 1 else 0
def orL : List Int → Int
 | [] => 0
 | x :: xs => bif x != 0 then x else orL xs
structure Ords {α : Type} (c : α → α → Int) : Prop where
 anti : ∀ x y, c y x = - c x y
 trans : ∀ x y z, c x y ≤ 0 → c y z ≤ 0 → c x z ≤ 0
theorem Ords.pre {α : Type} {c : α → α → Int} (h : Ords c) (S : α → Prop) : Pre c S :=
 ⟨fun x y _ _ => by have := h.anti x y; omega, fun x y z _ _ _ => h.trans x y z, fun x y _ _ => by have := h.anti x y; omega⟩
theorem Ords.refl {α : Type} {c : α → α → Int} (h : Ords c) (x : α) : c x x = 0 := by have := h.anti x x; omega
theorem Ords.on {α β : Type} {c : α → α → Int} (h : Ords c) (f : β → α) : Ords (fun x y => c (f x) (f y)) :=
 ⟨fun x y => h.anti _ _, fun x y z => h.trans _ _ _⟩
theorem Ords.nil {α : Type} : Ords (fun (x y : α) => orL []) := ⟨fun _ _ => by simp [orL], fun _ _ _ _ _ => by simp [orL]⟩
theorem Ords.lex {α : Type} {c : α → α → Int} {l : α → α → List Int} (h : Ords c) (h2 : Ords (fun x y => orL (l x y))) : Ords (fun x y => orL (c x y :: l x y)) := by
 refine ⟨fun x y => ?_, fun x y z => ?_⟩
 ·have a1 := h.anti x y
  have a2 := h2.anti x y
  simp only [orL]
  by_cases e : c x y = 0
  ·have e2 : c y x = 0 := by omega
   simp only [e, e2, bne_self_eq_false, cond_false]; exact a2
  ·have e2 : c y x ≠ 0 := by omega
   have f1 : (c x y != 0) = true := by simpa using e
   have f2 : (c y x != 0) = true := by simpa using e2
   simp only [f1, f2, cond_true]; exact a1
 ·have a1 := h.anti x y
  have a2 := h.anti y z
  have a3 := h.anti x z
  have t1 := h.trans x y z
  have t2 := h.trans z x y
  have t3 := h.trans y z x
  have s := h2.trans x y z
  have q : ∀ a b : Int, (bif a != 0 then a else b) = if a = 0 then b else a := fun a b => by
   by_cases e : a = 0
   ·simp [e]
   ·have : (a != 0) = true := by simpa using e
    rw [this, if_neg e]; rfl
  simp only [orL, q]
  intro h3 h4
  split at h3 <;> split at h4 <;> split <;> omega
theorem ords_cmpI : Ords cmpI := by
 have v : ∀ a b : Int, (a < b ∧ cmpI a b = -1) ∨ (a = b ∧ cmpI a b = 0) ∨ (b < a ∧ cmpI a b = 1) := fun a b => by
  unfold cmpI
  by_cases h1 : a < b
  ·exact .inl ⟨h1, by simp [h1]⟩
  ·by_cases h2 : a > b
   ·exact .inr (.inr ⟨h2, by simp [h1, h2]⟩)
   ·exact .inr (.inl ⟨by omega, by simp [h1, h2]⟩)
 refine ⟨fun x y => ?_, fun x y z => ?_⟩
 ·rcases v x y with ⟨h1, h2⟩ | ⟨h1, h2⟩ | ⟨h1, h2⟩ <;> rcases v y x with ⟨h3, h4⟩ | ⟨h3, h4⟩ | ⟨h3, h4⟩ <;> omega
 ·rcases v x y with ⟨h1, h2⟩ | ⟨h1, h2⟩ | ⟨h1, h2⟩ <;> rcases v y z with ⟨h3, h4⟩ | ⟨h3, h4⟩ | ⟨h3, h4⟩ <;> rcases v x z with ⟨h5, h6⟩ | ⟨h5, h6⟩ | ⟨h5, h6⟩ <;> omega
theorem cmpI_zero {a b : Int} : cmpI a b = 0 ↔ a = b := by
 unfold cmpI
 by_cases h1 : a < b
 ·simp [h1]; omega
 ·by_cases h2 : a > b
  ·simp [h1, h2]; omega
  ·simp [h1, h2]; omega
theorem cb_self : ∀ l : List UInt8, Lib.compareBytes l l = 0
 | [] => rfl
 | x :: xs => by unfold Lib.compareBytes; simp [cb_self xs]
theorem u8 {x y : UInt8} (h1 : ¬ x < y) (h2 : ¬ y < x) : x = y := by
 have e1 : ¬ x.toNat < y.toNat := by simpa [UInt8.lt_iff_toNat_lt] using h1
 have e2 : ¬ y.toNat < x.toNat := by simpa [UInt8.lt_iff_toNat_lt] using h2
 exact UInt8.toNat_inj.1 (by omega)
theorem cb_zero : ∀ a b : List UInt8, Lib.compareBytes a b = 0 → a = b
 | [], [], _ => rfl
 | [], _ :: _, h => by simp [Lib.compareBytes] at h
 | _ :: _, [], h => by simp [Lib.compareBytes] at h
 | x :: xs, y :: ys, h => by
  unfold Lib.compareBytes at h
  split at h
  ·cases h
  ·split at h
   ·cases h
   ·rename_i h1 h2
    rw [u8 h1 h2, cb_zero xs ys h]
theorem cb_anti : ∀ a b : List UInt8, Lib.compareBytes b a = - Lib.compareBytes a b
 | [], [] => rfl
 | [], _ :: _ => by simp [Lib.compareBytes]
 | _ :: _, [] => by simp [Lib.compareBytes]
 | x :: xs, y :: ys => by
  unfold Lib.compareBytes
  by_cases h1 : x < y
  ·have h2 : ¬ y < x := by
    intro h
    have a := UInt8.lt_iff_toNat_lt.1 h1
    have b := UInt8.lt_iff_toNat_lt.1 h
    omega
   simp [h1, h2]
  ·by_cases h2 : y < x
   ·simp [h1, h2]
   ·simp only [h1, h2, if_false]
    exact cb_anti xs ys
theorem cb_trans : ∀ a b c : List UInt8, Lib.compareBytes a b ≤ 0 → Lib.compareBytes b c ≤ 0 → Lib.compareBytes a c ≤ 0
 | [], _, [], _, _ => by simp [Lib.compareBytes]
 | [], _, _ :: _, _, _ => by simp [Lib.compareBytes]
 | x :: xs, [], _, h, _ => by simp [Lib.compareBytes] at h
 | x :: xs, y :: ys, [], _, h => by simp [Lib.compareBytes] at h
 | x :: xs, y :: ys, z :: zs, h1, h2 => by
  unfold Lib.compareBytes at h1 h2 ⊢
  have ll := @UInt8.lt_iff_toNat_lt
  by_cases a1 : x < y
  ·by_cases b1 : y < z
   ·have : x < z := by rw [ll] at *; omega
    simp [this]
   ·by_cases b2 : z < y
    ·simp [b1, b2] at h2
    ·have : x < z := by rw [ll] at *; omega
     simp [this]
  ·by_cases a2 : y < x
   ·simp [a1, a2] at h1
   ·simp only [a1, a2, if_false] at h1
    by_cases b1 : y < z
    ·have : x < z := by rw [ll] at *; omega
     simp [this]
    ·by_cases b2 : z < y
     ·simp [b1, b2] at h2
     ·simp only [b1, b2, if_false] at h2
      have c1 : ¬ x < z := by rw [ll] at *; omega
      have c2 : ¬ z < x := by rw [ll] at *; omega
      simp only [c1, c2, if_false]
      exact cb_trans xs ys zs h1 h2
theorem ords_cb : Ords Lib.compareBytes := ⟨fun x y => cb_anti x y, cb_trans⟩
theorem sgn_cmp {a b : Int} (h1 : -4398046511104 ≤ a ∧ a ≤ 4398046511104) (h2 : -4398046511104 ≤ b ∧ b ≤ 4398046511104) : sgn (w64 (a - b)) = cmpI a b := by
 rw [w64_eq (by omega) (by omega)]
 unfold sgn cmpI
 by_cases h1 : a < b
 ·have : a - b < 0 := by omega
  simp [h1, this]
 ·have g1 : ¬ a - b < 0 := by omega
  by_cases h2 : a > b
  ·have : a - b > 0 := by omega
   simp [h1, h2, g1, this]
  ·have : ¬ a - b > 0 := by omega
   simp [h1, h2, g1, this]
theorem ne_cmpI (a b : Int) : (a != b) = (cmpI a b != 0) := by
 rw [Bool.eq_iff_iff]; simp [cmpI_zero]
theorem cb_eq_zero {a b : List UInt8} : Lib.compareBytes a b = 0 ↔ a = b := ⟨cb_zero a b, fun h => by rw [h]; exact cb_self b⟩
theorem ne_cb (a b : List UInt8) : (!(a == b)) = (Lib.compareBytes a b != 0) := by
 rw [Bool.eq_iff_iff]; simp [cb_eq_zero]
theorem orL_zero {l : List Int} : orL l = 0 ↔ ∀ x ∈ l, x = 0 := by
 induction l with
 | nil => simp [orL]
 | cons x xs ih =>
  unfold orL
  by_cases h : x = 0
  ·simp [h, ih]
  ·have : (x != 0) = true := by simpa using h
   rw [this]; simp [h]
def aget {K V : Type} (eq : K → K → Bool) (x : K) : List (K × V) → Option V
 | [] => none
 | p :: ps => bif eq x p.1 then some p.2 else aget eq x ps
def aset {K V : Type} (eq : K → K → Bool) (x : K) (y : V) : List (K × V) → List (K × V)
 | [] => [(x, y)]
 | p :: ps => bif eq x p.1 then (x, y) :: ps else p :: aset eq x y ps
theorem aget_aset {K V : Type} {eq : K → K → Bool} (h : ∀ x y, eq x y = true ↔ x = y) (w x : K) (y : V) : ∀ m : List (K × V), aget eq w (aset eq x y m) = bif eq w x then some y else aget eq w m
 | [] => by simp [aset, aget]
 | p :: ps => by
  unfold aset
  cases hx : eq x p.1 with
  | true =>
   have := (h x p.1).1 hx
   simp only [cond_true, aget]
   rw [← this]
   cases eq w x <;> rfl
  | false =>
   simp only [cond_false, aget]
   rw [aget_aset h w x y ps]
   cases hw : eq w p.1 with
   | true =>
    have e := (h w p.1).1 hw
    have : eq w x = false := by
     cases hq : eq w x with
     | false => rfl
     | true =>
      have e2 := (h w x).1 hq
      rw [← e, ← e2, (h w w).2 rfl] at hx
      cases hx
    rw [this]; rfl
   | false => rfl
variable {A : Nat → Type}
theorem nat_bool {S : Spec A} (h : NatSpec S) {args : List (IV A)} {ys0 : List (IV A)} {F : {R : Type} → (Bool → Option R) → Option R} (hF : ∀ (R : Type) (k : IV A → List (IV A) → Option R), S args k = F (fun b => k (.d (.bool b)) ys0)) {b : Bool} (hb : F some = some b) (R : Type) (k : Bool → Option R) : F k = k b := by
 let f : (R : Type) → (Bool → Option R) → IV A → List (IV A) → Option R := fun R k r _ => match r with | .d (.bool b) => k b | _ => none
 have h1 := (hF R (f R k)).symm.trans (h args R (f R k))
 have h2 := (hF Bool (f Bool some)).symm.trans (h args Bool (f Bool some))
 have h3 : F (fun b => f R k (.d (.bool b)) ys0) = F k := rfl
 have h4 : F (fun b => f Bool some (.d (.bool b)) ys0) = F some := rfl
 rw [h3] at h1
 rw [h4, hb] at h2
 rw [h1]
 cases ht : S args (fun r ys => some (r, ys)) with
 | none => rw [ht] at h2; cases h2
 | some p =>
  obtain ⟨v, ys⟩ := p
  rw [ht] at h2
  simp only [Option.bind_some] at h2 ⊢
  unfold f at h2 ⊢
  split at h2
  ·cases h2; rfl
  ·cases h2
end Go.Am
set_option linter.unusedVariables false
set_option linter.unusedSimpArgs false
set_option maxRecDepth 100000
namespace Go.Am
open Go
end Go.Am
set_option linter.unusedVariables false
set_option linter.unusedSimpArgs false
set_option maxRecDepth 100000
namespace Go.Am
open Go
end Go.Am
set_option linter.unusedVariables false
set_option linter.unusedSectionVars false
set_option linter.unusedSimpArgs false
namespace Go.Am
open Go
theorem strict_one {α : Type} {c : α → α → Int} (h : Ords c) : ∀ {xs ys : List α}, xs.Pairwise (fun a b => c a b < 0) → ys.Pairwise (fun a b => c a b < 0) → (∀ x, x ∈ xs ↔ x ∈ ys) → xs = ys
 | [], [], _, _, _ => rfl
 | [], y :: ys, _, _, hm => by have := (hm y).2 (by simp); cases this
 | x :: xs, [], _, _, hm => by have := (hm x).1 (by simp); cases this
 | x :: xs, y :: ys, h1, h2, hm => by
  have p1 := List.pairwise_cons.1 h1
  have p2 := List.pairwise_cons.1 h2
  have self : ∀ z, ¬ c z z < 0 := fun z => by have := h.refl z; omega
  have e : x = y := by
   rcases List.mem_cons.1 ((hm x).1 (by simp)) with hx | hx
   ·exact hx
   ·rcases List.mem_cons.1 ((hm y).2 (by simp)) with hy | hy
    ·exact hy.symm
    ·have a := p2.1 x hx
     have b := p1.1 y hy
     have := h.anti x y
     omega
  subst e
  rw [strict_one h p1.2 p2.2 fun z => ?_]
  constructor
  ·intro hz
   rcases List.mem_cons.1 ((hm z).1 (by simp [hz])) with rfl | hz2
   ·exact absurd (p1.1 z hz) (self z)
   ·exact hz2
  ·intro hz
   rcases List.mem_cons.1 ((hm z).2 (by simp [hz])) with rfl | hz2
   ·exact absurd (p2.1 z hz) (self z)
   ·exact hz2
end Go.Am
set_option linter.unusedVariables false
set_option linter.unusedSimpArgs false
namespace Go.Am
open Go
theorem idxI_cases {α : Type} (p : α → Bool) (l : List α) : (idxI p l = -1 ∧ l.find? p = none) ∨ ∃ (i : Nat) (x : α), idxI p l = (i : Int) ∧ l[i]? = some x ∧ p x = true ∧ l.find? p = some x := by
 unfold idxI
 cases h : l.findIdx? p with
 | none =>
  left
  refine ⟨rfl, ?_⟩
  rw [List.find?_eq_none]
  intro x hx
  rw [List.findIdx?_eq_none_iff] at h
  simp [h x hx]
 | some i =>
  right
  obtain ⟨hi, hp, hm⟩ := List.findIdx?_eq_some_iff_getElem.1 h
  refine ⟨i, l[i], rfl, List.getElem?_eq_getElem hi, hp, ?_⟩
  rw [List.find?_eq_some_iff_getElem]
  exact ⟨hp, i, hi, rfl, fun j hj => by simpa using hm j hj⟩
end Go.Am
set_option linter.unusedVariables false
set_option linter.unusedSimpArgs false
namespace Go.Am
open Go
abbrev CmpS (α σ : Type) : Type 1 := α → α → σ → {R : Type} → (Int → σ → Option R) → Option R
section
variable {α σ : Type} {cmp : CmpS α σ} {c : α → α → Int} {S : α → Prop} {s : σ}
end
def sRev_L1 {α : Type} : Nat → Int → Int → List α → {R : Type} → (List α → Option R) → Option R
 | 0, _, _, _, _, _ => none
 | n + 1, v2, v3, v4, _, e0 => (bif (decide (v2 < v3)) then (inr v4 v3 (at_ v4 v3 fun x9 => (inr v4 v2 (at_ v4 v2 fun x10 => (inr v4 v2 (at_ v4 v2 fun x11 => (inr (set_ v4 v2 x9) v3 (at_ (set_ v4 v2 x9) v3 fun x12 => sRev_L1 n (w64 (v2 + 1)) (w64 (v3 - 1)) (set_ (set_ v4 v2 x9) v3 x10) e0)))))))) else e0 v4)
def sRev {α : Type} (N : Nat) (a1 : List α) {R : Type} (k0 : List α → Option R) : Option R :=
 (sRev_L1 N 0 (w64 ((a1.length : Int) - 1)) a1 (fun e13 => k0 e13))
theorem sRev_loop {α : Type} : ∀ (n : Nat) (A M B : List α), M.length < 2 * n → A.length + M.length ≤ 1000000000 → ∀ (R : Type) (e0 : List α → Option R), sRev_L1 n (A.length : Int) ((A.length : Int) + (M.length : Int) - 1) (A ++ (M ++ B)) e0 = e0 (A ++ (M.reverse ++ B))
 | 0, _, _, _, h, _, _, _ => by omega
 | n + 1, A, M, B, h, hl, R, e0 => by
  rw [sRev_L1]
  match M, h, hl with
  | [], _, _ => rw [decide_eq_false (by simp; omega)]; rfl
  | [x], _, _ => rw [decide_eq_false (by simp)]; rfl
  | x :: y0 :: M0, h, hl =>
   obtain ⟨M', y, hM⟩ : ∃ M' y, y0 :: M0 = M' ++ [y] := ⟨(y0 :: M0).dropLast, (y0 :: M0).getLast (by simp), (List.dropLast_concat_getLast (by simp)).symm⟩
   rw [hM] at h hl ⊢
   simp only [List.length_cons, List.length_append, List.length_nil] at h hl
   have ej : (A.length : Int) + ((x :: (M' ++ [y])).length : Int) - 1 = (((A ++ x :: M').length : Nat) : Int) := by simp; omega
   have l1 : A ++ (x :: (M' ++ [y]) ++ B) = A ++ x :: (M' ++ y :: B) := by simp
   have l2 : A ++ x :: (M' ++ y :: B) = (A ++ x :: M') ++ y :: B := by simp
   have lj : A.length < (A ++ x :: (M' ++ y :: B)).length := by simp
   have lk : (A ++ x :: M').length < (A ++ x :: (M' ++ y :: B)).length := by rw [l2]; simp
   have s1 : set_ (A ++ x :: (M' ++ y :: B)) (A.length : Int) y = A ++ y :: (M' ++ y :: B) := by rw [set_nat, set_mid]
   have l3 : A ++ y :: (M' ++ y :: B) = (A ++ y :: M') ++ y :: B := by simp
   have e3 : (A ++ x :: M').length = (A ++ y :: M').length := by simp
   have s2 : set_ (A ++ y :: (M' ++ y :: B)) ((A ++ x :: M').length : Int) x = (A ++ [y]) ++ (M' ++ x :: B) := by rw [set_nat, e3, l3, set_mid]; simp
   have lm : (A ++ x :: M').length < (A ++ y :: (M' ++ y :: B)).length := by rw [e3, l3]; simp
   have w1 : w64 ((A.length : Int) + 1) = (((A ++ [y]).length : Nat) : Int) := by rw [w64_eq (by omega) (by omega)]; simp
   have w2 : w64 (((A ++ x :: M').length : Int) - 1) = (((A ++ [y]).length : Nat) : Int) + (M'.length : Int) - 1 := by rw [w64_eq (by simp; omega) (by simp; omega)]; simp; omega
   rw [ej, l1, decide_eq_true (by simp; omega), cond_true, inr_nat lk, at_nat (x := y) (by rw [l2, get_mid]), inr_nat lj, at_nat (x := x) (by rw [get_mid]), inr_nat lj, at_nat (x := x) (by rw [get_mid]), s1, inr_nat lm, at_nat (x := y) (by rw [e3, l3, get_mid]), s2, w1, w2, sRev_loop n (A ++ [y]) M' (x :: B) (by omega) (by simp; omega)]
   congr 1
   simp
theorem sRev_is {α : Type} {N : Nat} {l : List α} (hl : l.length ≤ 1000000) (hN : l.length < N) {R : Type} (k : List α → Option R) : sRev N l k = k l.reverse := by
 have h := sRev_loop N [] l [] (by omega) (by simp; omega) R k
 simp only [List.nil_append, List.append_nil, List.length_nil] at h
 unfold sRev
 rw [w64_eq (by omega) (by omega)]
 have e : (((0 : Nat) : Int) + (l.length : Int) - 1) = (l.length : Int) - 1 := by omega
 rw [e] at h
 exact h
abbrev CmpU (α σ τ υ : Type) : Type 1 := α → α → σ → τ → υ → {R : Type} → (Int → σ → τ → υ → Option R) → Option R
section
variable {α σ τ υ : Type} {cmp : CmpU α σ τ υ} {c : α → α → Int} {S : α → Prop} {s : σ} {t : τ} {u : υ}
end
end Go.Am
