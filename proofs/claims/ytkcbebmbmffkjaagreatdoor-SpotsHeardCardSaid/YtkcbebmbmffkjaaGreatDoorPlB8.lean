/- The plain law, in Lean alone: B8, B9. No condition: lemmas for the claim. -/
import Derived.Test.YtkcbebmbmffkjaaGreatDoorPlB4
set_option linter.unusedVariables false
set_option linter.unusedSimpArgs false
namespace Go.Am
open Go
theorem insRev_congr {α : Type} {c c' : α → α → Int} {S : α → Prop} (h : ∀ x y, S x → S y → (c x y < 0 ↔ c' x y < 0)) (x : α) (hx : S x) : ∀ l : List α, (∀ y ∈ l, S y) → insRev c x l = insRev c' x l
 | [], _ => rfl
 | y :: ys, hl => by
  unfold insRev
  rw [insRev_congr h x hx ys (fun z hz => hl z (by simp [hz]))]
  have := h x y hx (hl y (by simp))
  by_cases hc : c x y < 0
  ·rw [if_pos hc, if_pos (this.1 hc)]
  ·rw [if_neg hc, if_neg (fun h => hc (this.2 h))]
theorem sortRev_congr {α : Type} {c c' : α → α → Int} {S : α → Prop} (h : ∀ x y, S x → S y → (c x y < 0 ↔ c' x y < 0)) : ∀ l acc : List α, (∀ y ∈ l, S y) → (∀ y ∈ acc, S y) → sortRev c acc l = sortRev c' acc l
 | [], _, _, _ => rfl
 | x :: xs, acc, h1, h2 => by
  have hx := h1 x (by simp)
  unfold sortRev
  rw [insRev_congr h x hx acc h2]
  refine sortRev_congr h xs _ (fun y hy => h1 y (by simp [hy])) (fun y hy => ?_)
  rcases List.mem_cons.1 ((insRev_perm c' x acc).mem_iff.1 hy) with rfl | hy
  ·exact hx
  ·exact h2 y hy
theorem sortI_congr {α : Type} {c c' : α → α → Int} {S : α → Prop} (h : ∀ x y, S x → S y → (c x y < 0 ↔ c' x y < 0)) {l : List α} (hl : ∀ y ∈ l, S y) : sortI c l = sortI c' l := by
 unfold sortI
 rw [sortRev_congr h l [] hl (fun y hy => by cases hy)]
theorem insRev_map {α β : Type} (f : α → β) (c : β → β → Int) (x : α) : ∀ l : List α, insRev c (f x) (l.map f) = (insRev (fun a b => c (f a) (f b)) x l).map f
 | [] => rfl
 | y :: ys => by
  simp only [List.map_cons, insRev]
  split
  ·rw [List.map_cons, insRev_map f c x ys]
  ·rfl
theorem sortRev_map {α β : Type} (f : α → β) (c : β → β → Int) : ∀ l acc : List α, sortRev c (acc.map f) (l.map f) = (sortRev (fun a b => c (f a) (f b)) acc l).map f
 | [], _ => rfl
 | x :: xs, acc => by
  simp only [List.map_cons, sortRev]
  rw [insRev_map]
  exact sortRev_map f c xs _
theorem sortI_map {α β : Type} (f : α → β) (c : β → β → Int) (l : List α) : sortI c (l.map f) = (sortI (fun a b => c (f a) (f b)) l).map f := by
 unfold sortI
 rw [List.map_reverse, ← sortRev_map]
 rfl
def heardR {α : Type} (cnt : α → Bool) (same : α → α → Bool) : List α → List α
 | [] => []
 | s :: r => bif cnt s && !(r.any fun o => cnt o && same s o) then s :: heardR cnt same r else heardR cnt same r
theorem heardR_sub {α : Type} {cnt : α → Bool} {same : α → α → Bool} : ∀ {l : List α} {x : α}, x ∈ heardR cnt same l → x ∈ l ∧ cnt x = true
 | [], x, h => by cases h
 | s :: r, x, h => by
  unfold heardR at h
  cases hc : (cnt s && !(r.any fun o => cnt o && same s o)) with
  | true =>
   rw [hc, cond_true] at h
   rcases List.mem_cons.1 h with rfl | h
   ·exact ⟨by simp, by simp only [Bool.and_eq_true] at hc; exact hc.1⟩
   ·exact ⟨by simp [(heardR_sub h).1], (heardR_sub h).2⟩
  | false =>
   rw [hc, cond_false] at h
   exact ⟨by simp [(heardR_sub h).1], (heardR_sub h).2⟩
theorem heardR_len {α : Type} (cnt : α → Bool) (same : α → α → Bool) : ∀ l : List α, (heardR cnt same l).length ≤ l.length
 | [] => by simp [heardR]
 | s :: r => by
  have := heardR_len cnt same r
  unfold heardR
  cases (cnt s && !(r.any fun o => cnt o && same s o)) <;> simp <;> omega
theorem heardR_congr {α : Type} {cnt cnt' : α → Bool} {same same' : α → α → Bool} : ∀ {l : List α}, (∀ x ∈ l, cnt x = cnt' x) → (∀ x ∈ l, ∀ y ∈ l, cnt x = true → cnt y = true → same x y = same' x y) → heardR cnt same l = heardR cnt' same' l
 | [], _, _ => rfl
 | s :: r, h1, h2 => by
  have hs := h1 s (by simp)
  unfold heardR
  rw [heardR_congr (fun x hx => h1 x (by simp [hx])) (fun x hx y hy => h2 x (by simp [hx]) y (by simp [hy]))]
  have : (cnt s && !(r.any fun o => cnt o && same s o)) = (cnt' s && !(r.any fun o => cnt' o && same' s o)) := by
   rw [← hs]
   cases hc : cnt s with
   | false => rfl
   | true =>
    rw [Bool.true_and, Bool.true_and]
    congr 1
    rw [Bool.eq_iff_iff, List.any_eq_true, List.any_eq_true]
    constructor
    ·rintro ⟨o, ho, h⟩
     simp only [Bool.and_eq_true] at h
     refine ⟨o, ho, ?_⟩
     rw [← h1 o (by simp [ho]), h.1, ← h2 s (by simp) o (by simp [ho]) hc h.1, h.2]; rfl
    ·rintro ⟨o, ho, h⟩
     rw [← h1 o (by simp [ho])] at h
     simp only [Bool.and_eq_true] at h
     refine ⟨o, ho, ?_⟩
     rw [h.1, h2 s (by simp) o (by simp [ho]) hc h.1, h.2]; rfl
  rw [this]
theorem idxI_cases {α : Type} (p : α → Bool) (l : List α) : (idxI p l = -1 ∧ l.find? p = none) ∨ ∃ (i : Nat) (x : α), idxI p l = (i : Int) ∧ l[i]? = some x ∧ p x = true ∧ l.find? p = some x := by
 unfold idxI
 cases h : l.findIdx? p with
 | none =>
  left
  refine ⟨rfl, ?_⟩
  rw [List.find?_eq_none]
  intro x hx
  rw [List.findIdx?_eq_none_iff] at h
  simp [h x hx]
 | some i =>
  right
  obtain ⟨hi, hp, hm⟩ := List.findIdx?_eq_some_iff_getElem.1 h
  refine ⟨i, l[i], rfl, List.getElem?_eq_getElem hi, hp, ?_⟩
  rw [List.find?_eq_some_iff_getElem]
  exact ⟨hp, i, hi, rfl, fun j hj => by simpa using hm j hj⟩
end Go.Am
set_option linter.unusedVariables false
set_option linter.unusedSimpArgs false
namespace Go.Am
open Go
abbrev CmpS (α σ : Type) : Type 1 := α → α → σ → {R : Type} → (Int → σ → Option R) → Option R
def cmpOf {α : Type} (c : α → α → Int) : CmpT α := fun x y {_} k => k (c x y)
theorem inr_congr {α : Type} {l : List α} {i : Int} {R : Type} {x y : Option R} (h : x = y) : inr l i x = inr l i y := by rw [h]
theorem at_congr {α : Type} {l : List α} {i : Int} {R : Type} {f g : α → Option R} (h : ∀ x, x ∈ l → f x = g x) : at_ l i f = at_ l i g := by
 unfold at_
 cases hx : l[i.toNat]? with
 | none => rfl
 | some x => exact h x (List.mem_of_getElem? hx)
def sInsS_L4 {α σ : Type} (cmp : CmpS α σ) : Nat → Int → Int → Int → Int → List α → σ → {R : Type} → (Int → Int → Int → List α → σ → Option R) → (Int → Int → Int → List α → σ → Option R) → Option R
 | 0, _, _, _, _, _, _, _, _, _ => none
 | n + 1, v42, v43, v44, v45, v46, v47, _, e0, e1 => (bif (decide (v45 > v42)) then (inr v46 v45 (at_ v46 v45 fun x56 => (inr v46 (w64 (v45 - 1)) (at_ v46 (w64 (v45 - 1)) fun x57 => (cmp x56 x57 v47 (fun r58 r59 => (bif (decide (r58 < 0)) then (inr v46 (w64 (v45 - 1)) (at_ v46 (w64 (v45 - 1)) fun x60 => (inr v46 v45 (at_ v46 v45 fun x61 => (inr v46 v45 (at_ v46 v45 fun x62 => (inr (set_ v46 v45 x60) (w64 (v45 - 1)) (at_ (set_ v46 v45 x60) (w64 (v45 - 1)) fun x63 => sInsS_L4 cmp n v42 v43 v44 (w64 (v45 - 1)) (set_ (set_ v46 v45 x60) (w64 (v45 - 1)) x61) r59 e0 e1)))))))) else e0 v42 v43 v44 v46 r59))))))) else e1 v42 v43 v44 v46 v47)
def sInsS_L1 {α σ : Type} (N : Nat) (cmp : CmpS α σ) : Nat → Int → Int → Int → List α → σ → {R : Type} → (List α → σ → Option R) → Option R
 | 0, _, _, _, _, _, _, _ => none
 | n + 1, v5, v6, v7, v8, v9, _, e0 => (bif (decide (v7 < v6)) then (sInsS_L4 cmp N v5 v6 v7 v7 v8 v9 (fun e64 e65 e66 e67 e68 => sInsS_L1 N cmp n e64 e65 (w64 (e66 + 1)) e67 e68 e0) (fun e69 e70 e71 e72 e73 => sInsS_L1 N cmp n e69 e70 (w64 (e71 + 1)) e72 e73 e0)) else e0 v8 v9)
def sInsS {α σ : Type} (N : Nat) (cmp : CmpS α σ) (a1 : List α) (a2 a3 : Int) (a4 : σ) {R : Type} (k0 : List α → σ → Option R) : Option R :=
 (sInsS_L1 N cmp N a2 a3 (w64 (a2 + 1)) a1 a4 (fun e74 e75 => k0 e74 e75))
theorem set2_mem {α : Type} {S : α → Prop} {l : List α} {i j : Int} {x y : α} (h : ∀ z ∈ l, S z) (hx : S x) (hy : S y) : ∀ z ∈ set_ (set_ l i x) j y, S z := fun z hz => by
 rcases mem_set' hz with hz | rfl
 ·rcases mem_set' hz with hz | rfl
  ·exact h z hz
  ·exact hx
 ·exact hy
section
variable {α σ : Type} {cmp : CmpS α σ} {c : α → α → Int} {S : α → Prop} {s : σ}
theorem sInsS_L4_is (hc : ∀ x y, S x → S y → ∀ (R : Type) (k : Int → σ → Option R), cmp x y s k = k (c x y) s) : ∀ (n : Nat) (a b i j : Int) (l : List α), (∀ y ∈ l, S y) → ∀ (R : Type) (e0 : Int → Int → Int → List α → σ → Option R) (e : Int → Int → Int → List α → Option R), (∀ a b i l, (∀ y ∈ l, S y) → e0 a b i l s = e a b i l) →
  sInsS_L4 cmp n a b i j l s e0 e0 = sIns_L4 (cmpOf c) n a b i j l e
 | 0, _, _, _, _, _, _, _, _, _, _ => rfl
 | n + 1, a, b, i, j, l, hl, R, e0, e, he => by
  rw [sInsS_L4, sIns_L4]
  cases decide (j > a) with
  | false => exact he a b i l hl
  | true =>
   refine inr_congr (at_congr fun x hx => inr_congr (at_congr fun y hy => ?_))
   rw [hc x y (hl x hx) (hl y hy)]
   show (bif decide (c x y < 0) then _ else _) = (bif decide (c x y < 0) then _ else _)
   cases decide (c x y < 0) with
   | false => exact he a b i l hl
   | true => exact inr_congr (at_congr fun x2 h2 => inr_congr (at_congr fun x3 h3 => inr_congr (at_congr fun x4 h4 => inr_congr (at_congr fun x5 h5 => sInsS_L4_is hc n a b i _ _ (set2_mem hl (hl x2 h2) (hl x3 h3)) R e0 e he))))
theorem sInsS_L1_is (hc : ∀ x y, S x → S y → ∀ (R : Type) (k : Int → σ → Option R), cmp x y s k = k (c x y) s) (N : Nat) : ∀ (n : Nat) (a b i : Int) (l : List α), (∀ y ∈ l, S y) → ∀ (R : Type) (e0 : List α → σ → Option R), sInsS_L1 N cmp n a b i l s e0 = sIns_L1 N (cmpOf c) n a b i l (fun l => e0 l s)
 | 0, _, _, _, _, _, _, _ => rfl
 | n + 1, a, b, i, l, hl, R, e0 => by
  rw [sInsS_L1, sIns_L1]
  cases decide (i < b) with
  | false => rfl
  | true => exact sInsS_L4_is hc N a b i i l hl R _ _ (fun a b i l hl => sInsS_L1_is hc N n a b (w64 (i + 1)) l hl R e0)
theorem sInsS_is (hc : ∀ x y, S x → S y → ∀ (R : Type) (k : Int → σ → Option R), cmp x y s k = k (c x y) s) (N : Nat) {a b : Int} {l : List α} (hl : ∀ y ∈ l, S y) (R : Type) (k : List α → σ → Option R) : sInsS N cmp l a b s k = sIns N (cmpOf c) l a b (fun l => k l s) :=
 sInsS_L1_is hc N N a b _ l hl R _
end
abbrev InsS (α σ : Type) : Type 1 := List α → Int → Int → σ → {R : Type} → (List α → σ → Option R) → Option R
def sStaS_L2 {α σ : Type} (ins : InsS α σ) : Nat → Int → Int → Int → Int → List α → σ → {R : Type} → (Int → Int → Int → List α → σ → Option R) → Option R
 | 0, _, _, _, _, _, _, _, _ => none
 | n + 1, v4, v5, v6, v7, v8, v9, _, e0 => (bif (decide (v7 ≤ v4)) then (ins v8 v6 v7 v9 (fun r12 r13 => sStaS_L2 ins n v4 v5 v7 (w64 (v7 + v5)) r12 r13 e0)) else e0 v4 v5 v6 v8 v9)
def sStaS_L9 {α σ : Type} : Nat → Int → Int → Int → Int → List α → σ → {R : Type} → (Int → Int → Int → List α → σ → Option R) → Option R
 | 0, _, _, _, _, _, _, _, _ => none
 | n + 1, v36, v37, v38, v39, v40, v41, _, e0 => (bif (decide (v39 ≤ v36)) then none else e0 v36 v37 v38 v40 v41)
def sStaS_L7 {α σ : Type} (N : Nat) : Nat → Int → Int → List α → σ → {R : Type} → (List α → σ → Option R) → Option R
 | 0, _, _, _, _, _, _ => none
 | n + 1, v21, v22, v23, v24, _, e0 => (bif (decide (v22 < v21)) then (sStaS_L9 N v21 v22 0 (w64 (2 * v22)) v23 v24 (fun e42 e43 e44 e45 e46 => (bif (decide ((w64 (e44 + e43)) < e42)) then none else sStaS_L7 N n e42 (w64 (e43 * 2)) e45 e46 e0))) else e0 v23 v24)
def sStaS {α σ : Type} (N : Nat) (ins : InsS α σ) (a1 : List α) (a2 : Int) (a3 : σ) {R : Type} (k0 : List α → σ → Option R) : Option R :=
 (sStaS_L2 ins N a2 20 0 20 a1 a3 (fun e14 e15 e16 e17 e18 => (ins e17 e16 e14 e18 (fun r19 r20 => (sStaS_L7 N N e14 e15 r19 r20 (fun e47 e48 => k0 e47 e48))))))
theorem sStaS_is {α σ : Type} {N : Nat} (c : α → α → Int) (S : α → Prop) (s : σ) (l : List α) (hS : ∀ y ∈ l, S y) (hl : l.length ≤ 20) (hN : 1000 ≤ N) (hN2 : N ≤ 4611686018427380000) (ins : InsS α σ) (hi : ∀ l a b (R : Type) (k : List α → σ → Option R), (∀ y ∈ l, S y) → ins l a b s k = sIns N (cmpOf c) l a b (fun l => k l s)) {R : Type} (k : List α → σ → Option R) :
  sStaS N ins l (l.length : Int) s k = k (sortI c l) s := by
 obtain ⟨m, rfl⟩ : ∃ m, N = m + 3 := ⟨N - 3, by omega⟩
 have hs : ∀ y ∈ sortI c l, S y := fun y hy => hS y (sortI_mem.1 hy)
 have hone : ∀ (R : Type) (k : List α → Option R), sIns (m + 3) (cmpOf c) l 0 (l.length : Int) k = k (sortI c l) := fun R k => sIns_is (cmp := cmpOf c) c (fun _ => True) (fun _ _ _ _ _ _ => rfl) l (fun _ _ => trivial) (by omega) hN2 k
 have h7 : ∀ r : List α, sStaS_L7 (m + 3) (m + 3) (l.length : Int) 20 r s (fun a b => k a b) = k r s := fun r => by
  rw [sStaS_L7, decide_eq_false (by omega)]; rfl
 unfold sStaS
 rw [sStaS_L2]
 by_cases h : l.length = 20
 ·have h20 : (20 : Int) = (l.length : Int) := by omega
  rw [decide_eq_true (by omega), cond_true, hi _ _ _ _ _ hS, h20, hone, sStaS_L2, ← h20, w64_eq (by omega) (by omega), decide_eq_false (by omega), cond_false, hi _ _ _ _ _ hs, sIns_end _ _ (by omega) (by omega) (by omega), h20]
  rw [← h20] at h7
  rw [← h20]
  exact h7 _
 ·rw [decide_eq_false (by omega), cond_false, hi _ _ _ _ _ hS, hone]
  exact h7 _
def sRev_L1 {α : Type} : Nat → Int → Int → List α → {R : Type} → (List α → Option R) → Option R
 | 0, _, _, _, _, _ => none
 | n + 1, v2, v3, v4, _, e0 => (bif (decide (v2 < v3)) then (inr v4 v3 (at_ v4 v3 fun x9 => (inr v4 v2 (at_ v4 v2 fun x10 => (inr v4 v2 (at_ v4 v2 fun x11 => (inr (set_ v4 v2 x9) v3 (at_ (set_ v4 v2 x9) v3 fun x12 => sRev_L1 n (w64 (v2 + 1)) (w64 (v3 - 1)) (set_ (set_ v4 v2 x9) v3 x10) e0)))))))) else e0 v4)
def sRev {α : Type} (N : Nat) (a1 : List α) {R : Type} (k0 : List α → Option R) : Option R :=
 (sRev_L1 N 0 (w64 ((a1.length : Int) - 1)) a1 (fun e13 => k0 e13))
theorem sRev_loop {α : Type} : ∀ (n : Nat) (A M B : List α), M.length < 2 * n → A.length + M.length ≤ 1000000000 → ∀ (R : Type) (e0 : List α → Option R), sRev_L1 n (A.length : Int) ((A.length : Int) + (M.length : Int) - 1) (A ++ (M ++ B)) e0 = e0 (A ++ (M.reverse ++ B))
 | 0, _, _, _, h, _, _, _ => by omega
 | n + 1, A, M, B, h, hl, R, e0 => by
  rw [sRev_L1]
  match M, h, hl with
  | [], _, _ => rw [decide_eq_false (by simp; omega)]; rfl
  | [x], _, _ => rw [decide_eq_false (by simp)]; rfl
  | x :: y0 :: M0, h, hl =>
   obtain ⟨M', y, hM⟩ : ∃ M' y, y0 :: M0 = M' ++ [y] := ⟨(y0 :: M0).dropLast, (y0 :: M0).getLast (by simp), (List.dropLast_concat_getLast (by simp)).symm⟩
   rw [hM] at h hl ⊢
   simp only [List.length_cons, List.length_append, List.length_nil] at h hl
   have ej : (A.length : Int) + ((x :: (M' ++ [y])).length : Int) - 1 = (((A ++ x :: M').length : Nat) : Int) := by simp; omega
   have l1 : A ++ (x :: (M' ++ [y]) ++ B) = A ++ x :: (M' ++ y :: B) := by simp
   have l2 : A ++ x :: (M' ++ y :: B) = (A ++ x :: M') ++ y :: B := by simp
   have lj : A.length < (A ++ x :: (M' ++ y :: B)).length := by simp
   have lk : (A ++ x :: M').length < (A ++ x :: (M' ++ y :: B)).length := by rw [l2]; simp
   have s1 : set_ (A ++ x :: (M' ++ y :: B)) (A.length : Int) y = A ++ y :: (M' ++ y :: B) := by rw [set_nat, set_mid]
   have l3 : A ++ y :: (M' ++ y :: B) = (A ++ y :: M') ++ y :: B := by simp
   have e3 : (A ++ x :: M').length = (A ++ y :: M').length := by simp
   have s2 : set_ (A ++ y :: (M' ++ y :: B)) ((A ++ x :: M').length : Int) x = (A ++ [y]) ++ (M' ++ x :: B) := by rw [set_nat, e3, l3, set_mid]; simp
   have lm : (A ++ x :: M').length < (A ++ y :: (M' ++ y :: B)).length := by rw [e3, l3]; simp
   have w1 : w64 ((A.length : Int) + 1) = (((A ++ [y]).length : Nat) : Int) := by rw [w64_eq (by omega) (by omega)]; simp
   have w2 : w64 (((A ++ x :: M').length : Int) - 1) = (((A ++ [y]).length : Nat) : Int) + (M'.length : Int) - 1 := by rw [w64_eq (by simp; omega) (by simp; omega)]; simp; omega
   rw [ej, l1, decide_eq_true (by simp; omega), cond_true, inr_nat lk, at_nat (x := y) (by rw [l2, get_mid]), inr_nat lj, at_nat (x := x) (by rw [get_mid]), inr_nat lj, at_nat (x := x) (by rw [get_mid]), s1, inr_nat lm, at_nat (x := y) (by rw [e3, l3, get_mid]), s2, w1, w2, sRev_loop n (A ++ [y]) M' (x :: B) (by omega) (by simp; omega)]
   congr 1
   simp
theorem sRev_is {α : Type} {N : Nat} {l : List α} (hl : l.length ≤ 1000000) (hN : l.length < N) {R : Type} (k : List α → Option R) : sRev N l k = k l.reverse := by
 have h := sRev_loop N [] l [] (by omega) (by simp; omega) R k
 simp only [List.nil_append, List.append_nil, List.length_nil] at h
 unfold sRev
 rw [w64_eq (by omega) (by omega)]
 have e : (((0 : Nat) : Int) + (l.length : Int) - 1) = (l.length : Int) - 1 := by omega
 rw [e] at h
 exact h
end Go.Am
