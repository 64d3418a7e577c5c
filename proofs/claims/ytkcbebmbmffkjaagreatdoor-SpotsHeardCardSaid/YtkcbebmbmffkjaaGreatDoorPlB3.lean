/- The plain law, in Lean alone: B3. No condition: lemmas for the claim. -/
import Derived.Test.YtkcbebmbmffkjaaGreatDoorPlB1
set_option linter.unusedVariables false
set_option linter.unusedSimpArgs false
set_option maxRecDepth 100000
namespace Go.Am
open Go
def sSta_L2 {α : Type} (ins : List α → Int → Int → {R : Type} → (List α → Option R) → Option R) : Nat → Int → Int → Int → Int → List α → {R : Type} → (Int → Int → Int → List α → Option R) → Option R
 | 0, _, _, _, _, _, _, _ => none
 | n + 1, v3, v4, v5, v6, v7, _, e0 => (bif (decide (v6 ≤ v3)) then (ins v7 v5 v6 (fun r9 => sSta_L2 ins n v3 v4 v6 (w64 (v6 + v4)) r9 e0)) else e0 v3 v4 v5 v7)
theorem sSta_L2_is {α : Type} {N M : Nat} {cmp : CmpT α} (c : α → α → Int) (S : α → Prop) (hc : ∀ x y, S x → S y → ∀ (R : Type) (k : Int → Option R), cmp x y k = k (c x y)) (l : List α) (hS : ∀ y ∈ l, S y) (hl : l.length ≤ 20) (hN : 1000 ≤ N) (hN2 : N ≤ 4611686018427380000) {R : Type} (e0 : Int → Int → Int → List α → Option R)
  (ins : List α → Int → Int → {R : Type} → (List α → Option R) → Option R) (hi : ∀ l a b (R : Type) (k : List α → Option R), ins l a b k = sIns N cmp l a b k) :
  (sSta_L2 ins (M + 3) (l.length : Int) 20 0 20 l e0 = if l.length = 20 then e0 (l.length : Int) 20 20 (sortI c l) else e0 (l.length : Int) 20 0 l) := by
 rw [sSta_L2]
 by_cases h : l.length = 20
 ·rw [decide_eq_true (by omega), if_pos h]
  simp only [cond_true, hi]
  have h20 : (20 : Int) = (l.length : Int) := by omega
  have e1 := sIns_is (N := N) c S hc l hS (by omega) hN2 (fun r9 => sSta_L2 ins (M + 2) (l.length : Int) 20 20 (w64 (20 + 20)) r9 e0)
  rw [← h20] at e1
  rw [← h20, e1, sSta_L2, w64_eq (by omega) (by omega), decide_eq_false (by omega)]
  rfl
 ·rw [decide_eq_false (by omega), if_neg h]
  rfl
def sSta_L9 {α : Type} : Nat → Int → Int → Int → Int → List α → {R : Type} → (Int → Int → Int → List α → Option R) → Option R
 | 0, _, _, _, _, _, _, _ => none
 | n + 1, v30, v31, v32, v33, v34, _, e0 => (bif (decide (v33 ≤ v30)) then none else e0 v30 v31 v32 v34)
def sSta_L7 {α : Type} (N : Nat) : Nat → Int → Int → List α → {R : Type} → (List α → Option R) → Option R
 | 0, _, _, _, _, _ => none
 | n + 1, v15, v16, v17, _, e0 => (bif (decide (v16 < v15)) then (sSta_L9 N v15 v16 0 (w64 (2 * v16)) v17 (fun e37 e38 e39 e40 => (bif (decide ((w64 (e39 + e38)) < e37)) then none else sSta_L7 N n e37 (w64 (e38 * 2)) e40 e0))) else e0 v17)
def sSta {α : Type} (N : Nat) (ins : List α → Int → Int → {R : Type} → (List α → Option R) → Option R) (a1 : List α) (a2 : Int) {R : Type} (k0 : List α → Option R) : Option R :=
 (sSta_L2 ins N a2 20 0 20 a1 (fun e10 e11 e12 e13 => (ins e13 e12 e10 (fun r14 => (sSta_L7 N N e10 e11 r14 (fun e42 => k0 e42))))))
theorem sSta_is {α : Type} {N : Nat} {cmp : CmpT α} (c : α → α → Int) (S : α → Prop) (hc : ∀ x y, S x → S y → ∀ (R : Type) (k : Int → Option R), cmp x y k = k (c x y)) (l : List α) (hS : ∀ y ∈ l, S y) (hl : l.length ≤ 20) (hN : 1000 ≤ N) (hN2 : N ≤ 4611686018427380000) (ins : List α → Int → Int → {R : Type} → (List α → Option R) → Option R) (hi : ∀ l a b (R : Type) (k : List α → Option R), ins l a b k = sIns N cmp l a b k) {R : Type} (k : List α → Option R) :
  sSta N ins l (l.length : Int) k = k (sortI c l) := by
 obtain ⟨m, rfl⟩ : ∃ m, N = m + 3 := ⟨N - 3, by omega⟩
 unfold sSta
 rw [sSta_L2_is (N := m + 3) c S hc l hS hl hN hN2 _ ins hi]
 simp only [hi]
 have h7 : ∀ r : List α, sSta_L7 (m + 3) (m + 3) (l.length : Int) 20 r k = k r := fun r => by
  rw [sSta_L7, decide_eq_false (by omega)]; rfl
 split
 ·rename_i h
  have h20 : (l.length : Int) = 20 := by omega
  rw [h20] at h7 ⊢
  rw [sIns_end _ _ (by omega) (by omega) (by omega)]
  exact h7 _
 ·rw [sIns_is c S hc l hS (by omega) hN2]
  exact h7 _
def dedupFrom {α : Type} (eq : α → α → Bool) : α → List α → List α
 | _, [] => []
 | p, y :: ys => if eq y p then dedupFrom eq y ys else y :: dedupFrom eq y ys
def compactP {α : Type} (eq : α → α → Bool) : List α → List α
 | [] => []
 | x :: xs => x :: dedupFrom eq x xs
theorem dedupFrom_sub {α : Type} (eq : α → α → Bool) : ∀ (l : List α) (p x : α), x ∈ dedupFrom eq p l → x ∈ l
 | [], _, _, h => by cases h
 | y :: ys, p, x, h => by
  unfold dedupFrom at h
  split at h
  ·exact List.mem_cons_of_mem _ (dedupFrom_sub eq ys y x h)
  ·rcases List.mem_cons.1 h with rfl | h
   ·exact List.mem_cons_self
   ·exact List.mem_cons_of_mem _ (dedupFrom_sub eq ys y x h)
theorem compactP_sub {α : Type} {eq : α → α → Bool} {l : List α} {x : α} (h : x ∈ compactP eq l) : x ∈ l := by
 cases l with
 | nil => cases h
 | cons y ys =>
  rcases List.mem_cons.1 h with rfl | h
  ·exact List.mem_cons_self
  ·exact List.mem_cons_of_mem _ (dedupFrom_sub eq ys y x h)
theorem dedupFrom_len {α : Type} (eq : α → α → Bool) : ∀ (l : List α) (p : α), (dedupFrom eq p l).length ≤ l.length
 | [], _ => Nat.le_refl _
 | y :: ys, p => by
  unfold dedupFrom
  have := dedupFrom_len eq ys y
  split <;> simp <;> omega
theorem compactP_len {α : Type} (eq : α → α → Bool) (l : List α) : (compactP eq l).length ≤ l.length := by
 cases l with
 | nil => exact Nat.le_refl _
 | cons y ys => have := dedupFrom_len eq ys y; simp [compactP]; omega
def EqT (α : Type) : Type 1 := α → α → {R : Type} → (Bool → Option R) → Option R
def sComp_L9 {α : Type} (eq : EqT α) : Nat → Int → Int → Int → Int → List α → {R : Type} → (Int → List α → Option R) → Option R
 | 0, _, _, _, _, _, _, _ => none
 | n + 1, v27, v28, v29, v30, v31, _, e0 => (bif (decide (v30 < ((v29 - v28).toNat : Int))) then (bif (decide (0 ≤ v30) && (decide (v30 < v29 - v28) && decide (v28 + v30 < (v31.length : Int)))) then (at_ v31 (v28 + v30) fun x37 => (bif (decide (0 ≤ (w64 (v30 - 1))) && (decide ((w64 (v30 - 1)) < v29 - v28) && decide (v28 + (w64 (v30 - 1)) < (v31.length : Int)))) then (at_ v31 (v28 + (w64 (v30 - 1))) fun x38 => (eq x37 x38 (fun r39 => (bif (!r39) then (bif (decide (0 ≤ v30) && (decide (v30 < v29 - v28) && decide (v28 + v30 < (v31.length : Int)))) then (at_ v31 (v28 + v30) fun x40 => (inr v31 v27 (at_ v31 v27 fun x41 => sComp_L9 eq n (w64 (v27 + 1)) v28 v29 (w64 (v30 + 1)) (set_ v31 v27 x40) e0))) else none) else sComp_L9 eq n v27 v28 v29 (w64 (v30 + 1)) v31 e0)))) else none)) else none) else e0 v27 v31)
def sCut {α : Type} (z : α) (e36 : Int) (e37 : List α) {R : Type} (e0 : List α → Option R) : Option R := (bif (decide (0 < e37.length) && (decide (0 ≤ e36) && decide (e36 ≤ (e37.length : Int)))) then (bif (decide (0 ≤ e36) && (decide (e36 ≤ (e37.length : Int)) && decide (((e37.length : Int)).toNat ≤ e37.length))) then (bif (decide (0 ≤ e36) && decide (e36 ≤ ((e37.take (e36).toNat ++ (List.replicate ((e37.length : Int) - e36).toNat z ++ e37.drop ((e37.length : Int)).toNat)).length : Int))) then e0 ((e37.take (e36).toNat ++ (List.replicate ((e37.length : Int) - e36).toNat z ++ e37.drop ((e37.length : Int)).toNat)).take (e36 : Int).toNat) else none) else none) else none)
theorem sCut_is {α : Type} {z : α} {i : Nat} {l : List α} (h0 : 0 < l.length) (h : i ≤ l.length) {R : Type} (e0 : List α → Option R) : sCut z (i : Int) l e0 = e0 (l.take i) := by
 unfold sCut
 have d1 : (decide (0 < l.length) && (decide (0 ≤ (i : Int)) && decide ((i : Int) ≤ (l.length : Int)))) = true := by simp; omega
 have d2 : (decide (0 ≤ (i : Int)) && (decide ((i : Int) ≤ (l.length : Int)) && decide (((l.length : Int)).toNat ≤ l.length))) = true := by simp; omega
 have d3 : (decide (0 ≤ (i : Int)) && decide ((i : Int) ≤ ((l.take ((i : Int)).toNat ++ (List.replicate ((l.length : Int) - (i : Int)).toNat z ++ l.drop ((l.length : Int)).toNat)).length : Int))) = true := by
  simp; omega
 rw [d1, d2, d3]
 simp only [cond_true]
 congr 1
 rw [Int.toNat_natCast, List.take_append_of_le_length (by simp; omega), List.take_take]
 simp
def sComp_L4 {α : Type} (N : Nat) (z : α) (eq : EqT α) : Nat → Int → List α → {R : Type} → (List α → Option R) → (List α → Option R) → Option R
 | 0, _, _, _, _, _ => none
 | n + 1, v2, v3, _, e0, e1 => (bif (decide (v2 < (v3.length : Int))) then (inr v3 v2 (at_ v3 v2 fun x24 => (inr v3 (w64 (v2 - 1)) (at_ v3 (w64 (v2 - 1)) fun x25 => (eq x24 x25 (fun r26 => (bif r26 then (bif (decide (0 < v3.length) && (decide (0 ≤ v2) && decide (v2 ≤ (v3.length : Int)))) then (sComp_L9 eq N v2 v2 (v3.length : Int) 1 v3 (fun e42 e43 => sCut z e42 e43 e0)) else none) else sComp_L4 N z eq n (w64 (v2 + 1)) v3 e0 e1))))))) else e1 v3)
def sComp {α : Type} (N : Nat) (z : α) (eq : EqT α) (a1 : List α) {R : Type} (k0 : List α → Option R) : Option R :=
 (bif (decide ((a1.length : Int) < 2)) then k0 a1 else (sComp_L4 N z eq N 1 a1 (fun e44 => k0 e44) (fun e45 => k0 e45)))
theorem sComp_inner {α : Type} (eq : EqT α) (q : α → α → Bool) (S : α → Prop) (he : ∀ x y, S x → S y → ∀ (R : Type) (k : Bool → Option R), eq x y k = k (q x y)) (i len : Nat) (hlen : len < 4611686018427380000) :
  ∀ (rest : List α) (p : α) (n k j : Nat) (l out : List α), l.length = len → l.drop (j - 1) = p :: rest → i + 1 ≤ j → k + 1 ≤ j → l.take k = out → (∀ y ∈ p :: rest, S y) → rest.length < n →
  ∃ (k' : Nat) (l' : List α), l'.length = len ∧ k' ≤ len ∧ l'.take k' = out ++ dedupFrom q p rest ∧ ∀ (R : Type) (e0 : Int → List α → Option R), sComp_L9 eq n (k : Int) (i : Int) (len : Int) ((j - i : Nat) : Int) l e0 = e0 (k' : Int) l'
 | _, _, 0, _, _, _, _, _, _, _, _, _, _, h => by omega
 | [], p, n + 1, k, j, l, out, h1, h2, h3, h4, h5, h6, h7 => by
  have hd := drop_cons h2
  simp at hd
  refine ⟨k, l, h1, by omega, by simp [dedupFrom, h5], fun R e0 => ?_⟩
  rw [sComp_L9, decide_eq_false (by omega)]; rfl
 | y :: ys, p, n + 1, k, j, l, out, h1, h2, h3, h4, h5, h6, h7 => by
  have hd := drop_cons h2
  have hj : j - 1 + 1 = j := by omega
  rw [hj] at hd
  have hd2 := drop_cons hd.2.2.1
  have hy : S y := h6 y (by simp)
  have hp : S p := h6 p (by simp)
  have hlt : j < l.length := hd2.2.1
  have d1 : decide (((j - i : Nat) : Int) < (((len : Int) - (i : Int)).toNat : Int)) = true := decide_eq_true (by omega)
  have d2 : (decide (0 ≤ ((j - i : Nat) : Int)) && (decide (((j - i : Nat) : Int) < (len : Int) - (i : Int)) && decide ((i : Int) + ((j - i : Nat) : Int) < (l.length : Int)))) = true := by simp; omega
  have e1 : w64 (((j - i : Nat) : Int) - 1) = ((j - i - 1 : Nat) : Int) := by rw [w64_eq (by omega) (by omega)]; omega
  have d3 : (decide (0 ≤ ((j - i - 1 : Nat) : Int)) && (decide (((j - i - 1 : Nat) : Int) < (len : Int) - (i : Int)) && decide ((i : Int) + ((j - i - 1 : Nat) : Int) < (l.length : Int)))) = true := by simp; omega
  have t1 : (i : Int) + ((j - i : Nat) : Int) = (j : Int) := by omega
  have t2 : (i : Int) + ((j - i - 1 : Nat) : Int) = ((j - 1 : Nat) : Int) := by omega
  have e2 : w64 (((j - i : Nat) : Int) + 1) = ((j + 1 - i : Nat) : Int) := by rw [w64_eq (by omega) (by omega)]; omega
  have e3 : w64 ((k : Int) + 1) = ((k + 1 : Nat) : Int) := w64_succ (by omega)
  cases hq : q y p with
  | true =>
   obtain ⟨k', l', a1, a2, a3, a4⟩ := sComp_inner eq q S he i len hlen ys y n k (j + 1) l out h1 (by simpa using hd.2.2.1) (by omega) (by omega) h5 (fun z hz => h6 z (List.mem_cons_of_mem _ hz)) (by simp at h7; omega)
   refine ⟨k', l', a1, a2, by rw [a3]; simp [dedupFrom, hq], fun R e0 => ?_⟩
   rw [sComp_L9, d1]
   simp only [cond_true, d2, e1, d3]
   rw [t1, at_nat hd2.1, t2, at_nat hd.1, he y p hy hp, hq]
   simp only [Bool.not_true, cond_false]
   rw [e2]
   exact a4 R e0
  | false =>
   have hk : k < l.length := by omega
   have gk : l[k]? = some l[k] := List.getElem?_eq_getElem hk
   obtain ⟨k', l', a1, a2, a3, a4⟩ := sComp_inner eq q S he i len hlen ys y n (k + 1) (j + 1) (l.set k y) (out ++ [y]) (by simpa using h1) (by
     show (l.set k y).drop j = y :: ys
     rw [List.drop_set_of_lt (by omega)]; exact hd.2.2.1) (by omega) (by omega) (by
     rw [List.take_add_one, List.getElem?_set_self hk, ← h5]; simp [List.take_set_of_le (Nat.le_refl k)]) (fun z hz => h6 z (List.mem_cons_of_mem _ hz)) (by simp at h7; omega)
   refine ⟨k', l', a1, a2, by rw [a3]; simp [dedupFrom, hq], fun R e0 => ?_⟩
   rw [sComp_L9, d1]
   simp only [cond_true, d2, e1, d3]
   rw [t1, at_nat hd2.1, t2, at_nat hd.1, he y p hy hp, hq]
   simp only [Bool.not_false, cond_true]
   rw [at_nat hd2.1, inr_nat hk, at_nat gk, e2, e3, set_nat]
   exact a4 R e0
theorem sComp_loop {α : Type} (N : Nat) (z : α) (eq : EqT α) (q : α → α → Bool) (S : α → Prop) (he : ∀ x y, S x → S y → ∀ (R : Type) (k : Bool → Option R), eq x y k = k (q x y)) (l : List α) (hl : l.length < 4611686018427380000) (hN : l.length < N) (hS : ∀ y ∈ l, S y) :
  ∀ (rest : List α) (p : α) (n i : Nat), l.drop (i - 1) = p :: rest → 1 ≤ i → rest.length < n → ∀ (R : Type) (k : List α → Option R), sComp_L4 N z eq n (i : Int) l k k = k (l.take i ++ dedupFrom q p rest)
 | _, _, 0, _, _, _, h, _, _ => by omega
 | [], p, n + 1, i, h, hi, _, R, k => by
  have hd := drop_cons h
  simp at hd
  rw [sComp_L4, decide_eq_false (by omega)]
  simp only [cond_false]
  congr 1
  rw [List.take_of_length_le (by omega)]; simp [dedupFrom]
 | y :: ys, p, n + 1, i, h, hi, hn, R, k => by
  have hd := drop_cons h
  have hj : i - 1 + 1 = i := by omega
  rw [hj] at hd
  have hd2 := drop_cons hd.2.2.1
  have hy : S y := hS y (mem_drop hd.2.2.1)
  have hp : S p := hS p (mem_drop h)
  have hlt : i < l.length := hd2.2.1
  rw [sComp_L4, decide_eq_true (by omega)]
  simp only [cond_true]
  rw [inr_nat hlt, at_nat hd2.1, w64_pred (by omega) (by omega), inr_nat (by omega), at_nat hd.1, he y p hy hp]
  unfold dedupFrom
  cases hq : q y p with
  | true =>
   simp only [cond_true, if_true]
   rw [show (decide (0 < l.length) && (decide (0 ≤ (i : Int)) && decide ((i : Int) ≤ (l.length : Int)))) = true by simp; omega]
   obtain ⟨k', l', a1, a2, a3, a4⟩ := sComp_inner eq q S he i l.length hl ys y N i (i + 1) l (l.take i) rfl (by simpa using hd.2.2.1) (by omega) (by omega) rfl (fun w hw => hS w (by
     rcases List.mem_cons.1 hw with rfl | hw
     ·exact mem_drop hd.2.2.1
     ·exact sub_drop hd2.2.2.1 w hw)) (by omega)
   have e : ((i + 1 - i : Nat) : Int) = 1 := by omega
   rw [e] at a4
   simp only [cond_true, a4]
   rw [sCut_is (by omega) (by omega), a3]
  | false =>
   simp only [cond_false, Bool.false_eq_true, if_false]
   rw [w64_succ (by omega), sComp_loop N z eq q S he l hl hN hS ys y n (i + 1) (by simpa using hd.2.2.1) (by omega) (by simp at hn; omega) R k]
   congr 1
   rw [List.take_add_one, hd2.1]; simp
theorem sComp_is {α : Type} {N : Nat} {z : α} {eq : EqT α} (q : α → α → Bool) (S : α → Prop) (he : ∀ x y, S x → S y → ∀ (R : Type) (k : Bool → Option R), eq x y k = k (q x y)) (l : List α) (hl : N < 4611686018427380000) (hN : l.length < N) (hS : ∀ y ∈ l, S y) {R : Type} (k : List α → Option R) :
  sComp N z eq l k = k (compactP q l) := by
 unfold sComp
 match l, hN, hS with
 | [], _, _ => rfl
 | [x], _, _ => rfl
 | x :: y :: ys, hN, hS =>
  rw [decide_eq_false (by simp; omega)]
  have h := sComp_loop N z eq q S he (x :: y :: ys) (by omega) hN hS (y :: ys) x N 1 rfl (by omega) (by simp at hN ⊢; omega) R k
  refine Eq.trans h ?_
  simp [compactP]
def sCat_L3 {α : Type} : Nat → List (List α) → Int → List (List α) → Int → Int → {R : Type} → (List (List α) → Int → Option R) → Option R
 | 0, _, _, _, _, _, _, _ => none
 | n + 1, v2, v3, v4, v5, v6, _, e0 => (bif (decide (v6 < v5)) then (get_ v4 v6 fun x8 => (bif (decide ((w64 (v3 + (x8.length : Int))) < 0)) then none else sCat_L3 n v2 (w64 (v3 + (x8.length : Int))) v4 v5 (w64 (v6 + 1)) e0)) else e0 v2 v3)
def sCat_L11 {α : Type} (by_ : Nat) : Nat → List (List α) → Int → Int → List α → {R : Type} → (List α → Option R) → Option R
 | 0, _, _, _, _, _, _ => none
 | n + 1, v12, v13, v14, v15, _, e0 => (bif (decide (v14 < v13)) then (get_ v12 v14 fun x17 => (bif (decide ((v15.length + x17.length) * by_ ≤ roomBytes')) then sCat_L11 by_ n v12 v13 (w64 (v14 + 1)) (v15 ++ x17) e0 else none)) else e0 v15)
def sCat {α : Type} (N by_ : Nat) (gr : Int → {R : Type} → (List α → Option R) → Option R) (a1 : List (List α)) {R : Type} (k0 : List α → Option R) : Option R :=
 (sCat_L3 N a1 0 a1 (a1.length : Int) 0 (fun e9 e10 => (gr e10 (fun r11 => (sCat_L11 by_ N e9 (e9.length : Int) 0 r11 (fun e18 => k0 e18))))))
theorem sCat_two {α : Type} {N by_ : Nat} (a b : List α) (ha : a.length ≤ 100000) (hb : b.length ≤ 100000) (hby : by_ ≤ 10000) (hN : 10 ≤ N) {R : Type} (k : List α → Option R) : sCat N by_ (X_grow by_) [a, b] k = k (a ++ b) := by
 obtain ⟨m, rfl⟩ : ∃ m, N = m + 4 := ⟨N - 4, by omega⟩
 have p1 : (a.length + b.length) * by_ ≤ 2000000000 := Nat.le_trans (Nat.mul_le_mul (show a.length + b.length ≤ 200000 by omega) hby) (by omega)
 have p2 : a.length * by_ ≤ 2000000000 := Nat.le_trans (Nat.mul_le_mul (show a.length ≤ 200000 by omega) hby) (by omega)
 have e1 : w64 (0 + (a.length : Int)) = (a.length : Int) := by rw [w64_eq (by omega) (by omega)]; omega
 have e2 : w64 ((a.length : Int) + (b.length : Int)) = ((a.length + b.length : Nat) : Int) := by rw [w64_eq (by omega) (by omega)]; omega
 have e3 : w64 (0 + 1) = ((1 : Nat) : Int) := by rw [w64_eq (by omega) (by omega)]; rfl
 have e4 : w64 (((1 : Nat) : Int) + 1) = ((2 : Nat) : Int) := by rw [w64_eq (by omega) (by omega)]; rfl
 have g0 : ∀ {R : Type} (k : List α → Option R), get_ [a, b] 0 k = k a := fun k => get_nat (i := 0) rfl k
 have g1 : ∀ {R : Type} (k : List α → Option R), get_ [a, b] ((1 : Nat) : Int) k = k b := fun k => get_nat (i := 1) rfl k
 unfold sCat
 simp only [sCat_L3, sCat_L11, g0, g1, e1, e2, e3, e4]
 have l2 : (([a, b] : List (List α)).length : Int) = 2 := rfl
 have d0 : decide ((a.length : Int) < 0) = false := decide_eq_false (by omega)
 have d1 : decide (((a.length + b.length : Nat) : Int) < 0) = false := decide_eq_false (by omega)
 have d2 : decide ((0 : Int) < 2) = true := rfl
 have d3 : decide (((1 : Nat) : Int) < 2) = true := rfl
 have d4 : decide (((2 : Nat) : Int) < 2) = false := rfl
 rw [l2, d2, d3, d4, d0, d1]
 simp only [cond_true, cond_false, X_grow]
 rw [show (decide (0 ≤ ((a.length + b.length : Nat) : Int)) && (decide (((a.length + b.length : Nat) : Int).toNat * by_ ≤ 140737488355328) && decide (((a.length + b.length : Nat) : Int) ≤ 4611686018427387904))) = true by
  rw [Int.toNat_natCast]; simp; omega]
 simp only [cond_true, List.length_nil, List.nil_append, Nat.zero_add, l2]
 rw [decide_eq_true (show a.length * by_ ≤ roomBytes' by unfold roomBytes'; omega), decide_eq_true (show (a.length + b.length) * by_ ≤ roomBytes' by unfold roomBytes'; omega)]
 rfl
theorem room1 {α : Type} (l : List α) (x : α) (by_ : Nat) (hl : l.length ≤ 1000000) (hby : by_ ≤ 10000) : decide ((l.length + [x].length) * by_ ≤ roomBytes') = true := by
 have p1 : (l.length + [x].length) * by_ ≤ 1000001 * 10000 := Nat.mul_le_mul (by simp; omega) hby
 exact decide_eq_true (by unfold roomBytes'; omega)
end Go.Am
