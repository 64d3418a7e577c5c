/- The plain law, in Lean alone: B4, B5, B6. No condition: lemmas for the claim. -/
import Derived.Test.YtonhhbcacemaiaaGreatDoorPlB3
import Derived.KernelRfl
set_option linter.unusedVariables false
set_option linter.unusedSimpArgs false
set_option maxRecDepth 100000
namespace Go.Am
open Go
def cmpI (a b : Int) : Int := bif decide (a < b) then -1 else bif decide (a > b) then 1 else 0
def orL : List Int → Int
 | [] => 0
 | x :: xs => bif x != 0 then x else orL xs
structure Ords {α : Type} (c : α → α → Int) : Prop where
 anti : ∀ x y, c y x = - c x y
 trans : ∀ x y z, c x y ≤ 0 → c y z ≤ 0 → c x z ≤ 0
theorem Ords.pre {α : Type} {c : α → α → Int} (h : Ords c) (S : α → Prop) : Pre c S :=
 ⟨fun x y _ _ => by have := h.anti x y; omega, fun x y z _ _ _ => h.trans x y z, fun x y _ _ => by have := h.anti x y; omega⟩
theorem Ords.refl {α : Type} {c : α → α → Int} (h : Ords c) (x : α) : c x x = 0 := by have := h.anti x x; omega
theorem Ords.nil {α : Type} : Ords (fun (x y : α) => orL []) := ⟨fun _ _ => by simp [orL], fun _ _ _ _ _ => by simp [orL]⟩
theorem cb_self : ∀ l : List UInt8, Lib.compareBytes l l = 0
 | [] => rfl
 | x :: xs => by unfold Lib.compareBytes; simp [cb_self xs]
theorem u8 {x y : UInt8} (h1 : ¬ x < y) (h2 : ¬ y < x) : x = y := by
 have e1 : ¬ x.toNat < y.toNat := by simpa [UInt8.lt_iff_toNat_lt] using h1
 have e2 : ¬ y.toNat < x.toNat := by simpa [UInt8.lt_iff_toNat_lt] using h2
 exact UInt8.toNat_inj.1 (by omega)
theorem bytesLess_is : ∀ a b : List UInt8, Op.bytesLess a b = decide (Lib.compareBytes a b < 0)
 | [], [] => by simp [Op.bytesLess, Lib.compareBytes]
 | _ :: _, [] => by simp [Op.bytesLess, Lib.compareBytes]
 | [], _ :: _ => by simp [Op.bytesLess, Lib.compareBytes]
 | x :: xs, y :: ys => by
  unfold Op.bytesLess Lib.compareBytes
  by_cases h1 : x < y
  ·simp [h1]
  ·by_cases h2 : y < x
   ·have h3 : ¬ x = y := fun e => by subst e; exact h1 h2
    simp [h1, h2, h3]
   ·have h3 := u8 h1 h2
    subst h3
    simp [h1, bytesLess_is xs ys]
theorem cb_zero : ∀ a b : List UInt8, Lib.compareBytes a b = 0 → a = b
 | [], [], _ => rfl
 | [], _ :: _, h => by simp [Lib.compareBytes] at h
 | _ :: _, [], h => by simp [Lib.compareBytes] at h
 | x :: xs, y :: ys, h => by
  unfold Lib.compareBytes at h
  split at h
  ·cases h
  ·split at h
   ·cases h
   ·rename_i h1 h2
    rw [u8 h1 h2, cb_zero xs ys h]
theorem cb_anti : ∀ a b : List UInt8, Lib.compareBytes b a = - Lib.compareBytes a b
 | [], [] => rfl
 | [], _ :: _ => by simp [Lib.compareBytes]
 | _ :: _, [] => by simp [Lib.compareBytes]
 | x :: xs, y :: ys => by
  unfold Lib.compareBytes
  by_cases h1 : x < y
  ·have h2 : ¬ y < x := by
    intro h
    have a := UInt8.lt_iff_toNat_lt.1 h1
    have b := UInt8.lt_iff_toNat_lt.1 h
    omega
   simp [h1, h2]
  ·by_cases h2 : y < x
   ·simp [h1, h2]
   ·simp only [h1, h2, if_false]
    exact cb_anti xs ys
theorem cb_trans : ∀ a b c : List UInt8, Lib.compareBytes a b ≤ 0 → Lib.compareBytes b c ≤ 0 → Lib.compareBytes a c ≤ 0
 | [], _, [], _, _ => by simp [Lib.compareBytes]
 | [], _, _ :: _, _, _ => by simp [Lib.compareBytes]
 | x :: xs, [], _, h, _ => by simp [Lib.compareBytes] at h
 | x :: xs, y :: ys, [], _, h => by simp [Lib.compareBytes] at h
 | x :: xs, y :: ys, z :: zs, h1, h2 => by
  unfold Lib.compareBytes at h1 h2 ⊢
  have ll := @UInt8.lt_iff_toNat_lt
  by_cases a1 : x < y
  ·by_cases b1 : y < z
   ·have : x < z := by rw [ll] at *; omega
    simp [this]
   ·by_cases b2 : z < y
    ·simp [b1, b2] at h2
    ·have : x < z := by rw [ll] at *; omega
     simp [this]
  ·by_cases a2 : y < x
   ·simp [a1, a2] at h1
   ·simp only [a1, a2, if_false] at h1
    by_cases b1 : y < z
    ·have : x < z := by rw [ll] at *; omega
     simp [this]
    ·by_cases b2 : z < y
     ·simp [b1, b2] at h2
     ·simp only [b1, b2, if_false] at h2
      have c1 : ¬ x < z := by rw [ll] at *; omega
      have c2 : ¬ z < x := by rw [ll] at *; omega
      simp only [c1, c2, if_false]
      exact cb_trans xs ys zs h1 h2
theorem ords_cb : Ords Lib.compareBytes := ⟨fun x y => cb_anti x y, cb_trans⟩
theorem cb_eq_zero {a b : List UInt8} : Lib.compareBytes a b = 0 ↔ a = b := ⟨cb_zero a b, fun h => by rw [h]; exact cb_self b⟩
def aget {K V : Type} (eq : K → K → Bool) (x : K) : List (K × V) → Option V
 | [] => none
 | p :: ps => bif eq x p.1 then some p.2 else aget eq x ps
def aset {K V : Type} (eq : K → K → Bool) (x : K) (y : V) : List (K × V) → List (K × V)
 | [] => [(x, y)]
 | p :: ps => bif eq x p.1 then (x, y) :: ps else p :: aset eq x y ps
theorem aget_aset {K V : Type} {eq : K → K → Bool} (h : ∀ x y, eq x y = true ↔ x = y) (w x : K) (y : V) : ∀ m : List (K × V), aget eq w (aset eq x y m) = bif eq w x then some y else aget eq w m
 | [] => by simp [aset, aget]
 | p :: ps => by
  unfold aset
  cases hx : eq x p.1 with
  | true =>
   have := (h x p.1).1 hx
   simp only [cond_true, aget]
   rw [← this]
   cases eq w x <;> rfl
  | false =>
   simp only [cond_false, aget]
   rw [aget_aset h w x y ps]
   cases hw : eq w p.1 with
   | true =>
    have e := (h w p.1).1 hw
    have : eq w x = false := by
     cases hq : eq w x with
     | false => rfl
     | true =>
      have e2 := (h w x).1 hq
      rw [← e, ← e2, (h w w).2 rfl] at hx
      cases hx
    rw [this]; rfl
   | false => rfl
variable {A : Nat → Type}
theorem nat_bool {S : Spec A} (h : NatSpec S) {args : List (IV A)} {ys0 : List (IV A)} {F : {R : Type} → (Bool → Option R) → Option R} (hF : ∀ (R : Type) (k : IV A → List (IV A) → Option R), S args k = F (fun b => k (.d (.bool b)) ys0)) {b : Bool} (hb : F some = some b) (R : Type) (k : Bool → Option R) : F k = k b := by
 let f : (R : Type) → (Bool → Option R) → IV A → List (IV A) → Option R := fun R k r _ => match r with | .d (.bool b) => k b | _ => none
 have h1 := (hF R (f R k)).symm.trans (h args R (f R k))
 have h2 := (hF Bool (f Bool some)).symm.trans (h args Bool (f Bool some))
 have h3 : F (fun b => f R k (.d (.bool b)) ys0) = F k := rfl
 have h4 : F (fun b => f Bool some (.d (.bool b)) ys0) = F some := rfl
 rw [h3] at h1
 rw [h4, hb] at h2
 rw [h1]
 cases ht : S args (fun r ys => some (r, ys)) with
 | none => rw [ht] at h2; cases h2
 | some p =>
  obtain ⟨v, ys⟩ := p
  rw [ht] at h2
  simp only [Option.bind_some] at h2 ⊢
  unfold f at h2 ⊢
  split at h2
  ·cases h2; rfl
  ·cases h2
theorem nat_str {S : Spec A} (h : NatSpec S) {args : List (IV A)} {ys0 : List (IV A)} {F : {R : Type} → (List UInt8 → Option R) → Option R} (hF : ∀ (R : Type) (k : IV A → List (IV A) → Option R), S args k = F (fun b => k (.d (.str b)) ys0)) {b : List UInt8} (hb : F some = some b) (R : Type) (k : List UInt8 → Option R) : F k = k b := by
 let f : (R : Type) → (List UInt8 → Option R) → IV A → List (IV A) → Option R := fun R k r _ => match r with | .d (.str b) => k b | _ => none
 have h1 := (hF R (f R k)).symm.trans (h args R (f R k))
 have h2 := (hF _ (f _ some)).symm.trans (h args _ (f _ some))
 have h3 : F (fun b => f R k (.d (.str b)) ys0) = F k := rfl
 have h4 : F (fun b => f _ some (.d (.str b)) ys0) = F some := rfl
 rw [h3] at h1
 rw [h4, hb] at h2
 rw [h1]
 cases ht : S args (fun r ys => some (r, ys)) with
 | none => rw [ht] at h2; cases h2
 | some p =>
  obtain ⟨v, ys⟩ := p
  rw [ht] at h2
  simp only [Option.bind_some] at h2 ⊢
  unfold f at h2 ⊢
  split at h2
  ·cases h2; rfl
  ·cases h2
end Go.Am
set_option linter.unusedVariables false
set_option linter.unusedSimpArgs false
set_option maxRecDepth 100000
namespace Go.Am
open Go
theorem sorted_one {α : Type} {c : α → α → Int} (h : Ords c) {xs ys : List α} (hz : ∀ x ∈ ys, ∀ y ∈ ys, c x y = 0 → x = y) (hp : xs.Perm ys) (h1 : xs.Pairwise fun a b => c a b ≤ 0) (h2 : ys.Pairwise fun a b => c a b ≤ 0) : xs = ys :=
 List.Perm.eq_of_pairwise (le := fun a b => c a b ≤ 0) (fun a b ha hb h3 h4 => hz a (hp.mem_iff.1 ha) b hb (by have := h.anti a b; omega)) h1 h2 hp
end Go.Am
set_option linter.unusedVariables false
set_option linter.unusedSimpArgs false
set_option maxRecDepth 100000
namespace Go.Am
open Go
theorem cb_le : ∀ a b : List UInt8, Lib.compareBytes a b ≤ 0 ↔ a ≤ b
 | [], [] => by simp [Lib.compareBytes]
 | [], b :: ys => by simp [Lib.compareBytes]
 | a :: xs, [] => by simp [Lib.compareBytes]
 | a :: xs, b :: ys => by
  rw [List.cons_le_cons_iff]
  unfold Lib.compareBytes
  by_cases h1 : a < b
  ·rw [if_pos h1]
   simp [h1]
  ·rw [if_neg h1]
   by_cases h2 : b < a
   ·rw [if_pos h2]
    have : a ≠ b := fun e => by subst e; exact h1 h2
    simp [h1, this]
   ·rw [if_neg h2, cb_le xs ys]
    have e := u8 h1 h2
    simp [e]
theorem mergeSort_cb (l : List (List UInt8)) (hn : l.Nodup) : l.mergeSort (fun x y => decide (x ≤ y)) = sortI Lib.compareBytes l := by
 have tr : ∀ a b c : List UInt8, decide (a ≤ b) = true → decide (b ≤ c) = true → decide (a ≤ c) = true := fun a b c h1 h2 => by simp only [decide_eq_true_eq] at *; exact List.le_trans h1 h2
 have to : ∀ a b : List UInt8, (decide (a ≤ b) || decide (b ≤ a)) = true := fun a b => by simp only [Bool.or_eq_true, decide_eq_true_eq]; exact List.le_total a b
 have hs := List.pairwise_mergeSort tr to l
 refine sorted_one ords_cb (fun x _ y _ h => cb_eq_zero.1 h) ((List.mergeSort_perm l _).trans (sortI_perm _ l).symm) (hs.imp fun h => (cb_le _ _).2 (of_decide_eq_true h)) (sortI_sorted (ords_cb.pre (fun _ => True)) l (fun _ _ => trivial))
theorem ordS_is {A : Nat → Type} {k : Nat} (hA : A k = List UInt8) (ks : List (A k)) (str : A k → List UInt8) (un : List UInt8 → A k) (hn : (ks.map str).Nodup) (hl : ∀ s ∈ ks.map str, s.length ≤ 100000) (hc : ks.length ≤ 1000000) :
  ordS str un ks = some ((sortI Lib.compareBytes (ks.map str)).map un) := by
 unfold ordS
 have h1 : decide (ks.map str).Nodup = true := decide_eq_true hn
 have h2 : (ks.map str).all (fun s => decide (s.length ≤ maxLen)) = true := List.all_eq_true.2 fun s hs => decide_eq_true (by have := hl s hs; unfold maxLen; omega)
 have h3 : decide (ks.length * 16 ≤ 140737488355328) = true := decide_eq_true (by omega)
 rw [h1, h2, h3]
 simp only [Bool.and_self, cond_true]
 congr 2
 exact mergeSort_cb _ hn
abbrev OneM {K V : Type} (m : List (K × V)) : Prop := (m.map (·.1)).Nodup
theorem aset_keys {K V : Type} {eq : K → K → Bool} (h : ∀ x y, eq x y = true ↔ x = y) (x : K) (y : V) : ∀ m : List (K × V), (x ∈ m.map (·.1) ∧ (aset eq x y m).map (·.1) = m.map (·.1)) ∨ (x ∉ m.map (·.1) ∧ (aset eq x y m).map (·.1) = m.map (·.1) ++ [x])
 | [] => .inr (by simp [aset])
 | p :: ps => by
  unfold aset
  cases hx : eq x p.1 with
  | true =>
   have := (h x p.1).1 hx
   exact .inl (by simp [this])
  | false =>
   have hne : x ≠ p.1 := fun e => by rw [(h x p.1).2 e] at hx; cases hx
   simp only [cond_false, List.map_cons, List.mem_cons, hne, false_or]
   rcases aset_keys h x y ps with ⟨h1, h2⟩ | ⟨h1, h2⟩
   ·exact .inl ⟨h1, by rw [h2]⟩
   ·exact .inr ⟨h1, by rw [h2]; rfl⟩
theorem aset_one {K V : Type} {eq : K → K → Bool} (h : ∀ x y, eq x y = true ↔ x = y) {m : List (K × V)} (hm : OneM m) (x : K) (y : V) : OneM (aset eq x y m) := by
 show ((aset eq x y m).map (·.1)).Nodup
 rcases aset_keys h x y m with ⟨h1, h2⟩ | ⟨hn, h2⟩
 ·rw [h2]; exact hm
 ·rw [h2]
  refine List.nodup_append.2 ⟨hm, by simp, fun a ha b hb => ?_⟩
  simp at hb
  subst hb
  intro e
  subst e
  exact hn ha
theorem aset_len {K V : Type} {eq : K → K → Bool} (x : K) (y : V) : ∀ m : List (K × V), (aset eq x y m).length ≤ m.length + 1
 | [] => by simp [aset]
 | p :: ps => by
  unfold aset
  cases eq x p.1 with
  | true => simp
  | false => have := aset_len (eq := eq) x y ps; simp; omega
theorem aset_mem {K V : Type} {eq : K → K → Bool} {x : K} {y : V} : ∀ {m : List (K × V)} {p : K × V}, p ∈ aset eq x y m → p = (x, y) ∨ p ∈ m
 | [], p, hp => by simp [aset] at hp; exact .inl hp
 | q :: ps, p, hp => by
  unfold aset at hp
  cases hx : eq x q.1 with
  | true =>
   rw [hx] at hp
   rcases List.mem_cons.1 hp with h | h
   ·exact .inl h
   ·exact .inr (List.mem_cons_of_mem _ h)
  | false =>
   rw [hx] at hp
   rcases List.mem_cons.1 hp with h | h
   ·exact .inr (h ▸ List.mem_cons_self)
   ·rcases aset_mem h with h | h
    ·exact .inl h
    ·exact .inr (List.mem_cons_of_mem _ h)
end Go.Am
