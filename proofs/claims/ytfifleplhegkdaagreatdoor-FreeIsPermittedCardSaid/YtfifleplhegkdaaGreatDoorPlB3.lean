/- The plain law, in Lean alone: B3. No condition: lemmas for the claim. -/
import Derived.Test.YtfifleplhegkdaaGreatDoorPlB1
set_option linter.unusedVariables false
set_option linter.unusedSimpArgs false
set_option maxRecDepth 100000
namespace Go.Am
open Go
def sSta_L2 {α : Type} (ins : List α → Int → Int → {R : Type} → (List α → Option R) → Option R) : Nat → Int → Int → Int → Int → List α → {R : Type} → (Int → Int → Int → List α → Option R) → Option R
 | 0, _, _, _, _, _, _, _ => none
 | n + 1, v3, v4, v5, v6, v7, _, e0 => (bif (decide (v6 ≤ v3)) then (ins v7 v5 v6 (fun r9 => sSta_L2 ins n v3 v4 v6 (w64 (v6 + v4)) r9 e0)) else e0 v3 v4 v5 v7)
theorem sSta_L2_is {α : Type} {N M : Nat} {cmp : CmpT α} (c : α → α → Int) (S : α → Prop) (hc : ∀ x y, S x → S y → ∀ (R : Type) (k : Int → Option R), cmp x y k = k (c x y)) (l : List α) (hS : ∀ y ∈ l, S y) (hl : l.length ≤ 20) (hN : 1000 ≤ N) (hN2 : N ≤ 4611686018427380000) {R : Type} (e0 : Int → Int → Int → List α → Option R)
  (ins : List α → Int → Int → {R : Type} → (List α → Option R) → Option R) (hi : ∀ l a b (R : Type) (k : List α → Option R), ins l a b k = sIns N cmp l a b k) :
  (sSta_L2 ins (M + 3) (l.length : Int) 20 0 20 l e0 = if l.length = 20 then e0 (l.length : Int) 20 20 (sortI c l) else e0 (l.length : Int) 20 0 l) := by
 rw [sSta_L2]
 by_cases h : l.length = 20
 ·rw [decide_eq_true (by omega), if_pos h]
  simp only [cond_true, hi]
  have h20 : (20 : Int) = (l.length : Int) := by omega
  have e1 := sIns_is (N := N) c S hc l hS (by omega) hN2 (fun r9 => sSta_L2 ins (M + 2) (l.length : Int) 20 20 (w64 (20 + 20)) r9 e0)
  rw [← h20] at e1
  rw [← h20, e1, sSta_L2, w64_eq (by omega) (by omega), decide_eq_false (by omega)]
  rfl
 ·rw [decide_eq_false (by omega), if_neg h]
  rfl
def sSta_L9 {α : Type} : Nat → Int → Int → Int → Int → List α → {R : Type} → (Int → Int → Int → List α → Option R) → Option R
 | 0, _, _, _, _, _, _, _ => none
 | n + 1, v30, v31, v32, v33, v34, _, e0 => (bif (decide (v33 ≤ v30)) then none else e0 v30 v31 v32 v34)
def sSta_L7 {α : Type} (N : Nat) : Nat → Int → Int → List α → {R : Type} → (List α → Option R) → Option R
 | 0, _, _, _, _, _ => none
 | n + 1, v15, v16, v17, _, e0 => (bif (decide (v16 < v15)) then (sSta_L9 N v15 v16 0 (w64 (2 * v16)) v17 (fun e37 e38 e39 e40 => (bif (decide ((w64 (e39 + e38)) < e37)) then none else sSta_L7 N n e37 (w64 (e38 * 2)) e40 e0))) else e0 v17)
def sSta {α : Type} (N : Nat) (ins : List α → Int → Int → {R : Type} → (List α → Option R) → Option R) (a1 : List α) (a2 : Int) {R : Type} (k0 : List α → Option R) : Option R :=
 (sSta_L2 ins N a2 20 0 20 a1 (fun e10 e11 e12 e13 => (ins e13 e12 e10 (fun r14 => (sSta_L7 N N e10 e11 r14 (fun e42 => k0 e42))))))
theorem sSta_is {α : Type} {N : Nat} {cmp : CmpT α} (c : α → α → Int) (S : α → Prop) (hc : ∀ x y, S x → S y → ∀ (R : Type) (k : Int → Option R), cmp x y k = k (c x y)) (l : List α) (hS : ∀ y ∈ l, S y) (hl : l.length ≤ 20) (hN : 1000 ≤ N) (hN2 : N ≤ 4611686018427380000) (ins : List α → Int → Int → {R : Type} → (List α → Option R) → Option R) (hi : ∀ l a b (R : Type) (k : List α → Option R), ins l a b k = sIns N cmp l a b k) {R : Type} (k : List α → Option R) :
  sSta N ins l (l.length : Int) k = k (sortI c l) := by
 obtain ⟨m, rfl⟩ : ∃ m, N = m + 3 := ⟨N - 3, by omega⟩
 unfold sSta
 rw [sSta_L2_is (N := m + 3) c S hc l hS hl hN hN2 _ ins hi]
 simp only [hi]
 have h7 : ∀ r : List α, sSta_L7 (m + 3) (m + 3) (l.length : Int) 20 r k = k r := fun r => by
  rw [sSta_L7, decide_eq_false (by omega)]; rfl
 split
 ·rename_i h
  have h20 : (l.length : Int) = 20 := by omega
  rw [h20] at h7 ⊢
  rw [sIns_end _ _ (by omega) (by omega) (by omega)]
  exact h7 _
 ·rw [sIns_is c S hc l hS (by omega) hN2]
  exact h7 _
def dedupFrom {α : Type} (eq : α → α → Bool) : α → List α → List α
 | _, [] => []
 | p, y :: ys => if eq y p then dedupFrom eq y ys else y :: dedupFrom eq y ys
def compactP {α : Type} (eq : α → α → Bool) : List α → List α
 | [] => []
 | x :: xs => x :: dedupFrom eq x xs
theorem dedupFrom_sub {α : Type} (eq : α → α → Bool) : ∀ (l : List α) (p x : α), x ∈ dedupFrom eq p l → x ∈ l
 | [], _, _, h => by cases h
 | y :: ys, p, x, h => by
  unfold dedupFrom at h
  split at h
  ·exact List.mem_cons_of_mem _ (dedupFrom_sub eq ys y x h)
  ·rcases List.mem_cons.1 h with rfl | h
   ·exact List.mem_cons_self
   ·exact List.mem_cons_of_mem _ (dedupFrom_sub eq ys y x h)
theorem compactP_sub {α : Type} {eq : α → α → Bool} {l : List α} {x : α} (h : x ∈ compactP eq l) : x ∈ l := by
 cases l with
 | nil => cases h
 | cons y ys =>
  rcases List.mem_cons.1 h with rfl | h
  ·exact List.mem_cons_self
  ·exact List.mem_cons_of_mem _ (dedupFrom_sub eq ys y x h)
theorem dedupFrom_len {α : Type} (eq : α → α → Bool) : ∀ (l : List α) (p : α), (dedupFrom eq p l).length ≤ l.length
 | [], _ => Nat.le_refl _
 | y :: ys, p => by
  unfold dedupFrom
  have := dedupFrom_len eq ys y
  split <;> simp <;> omega
theorem compactP_len {α : Type} (eq : α → α → Bool) (l : List α) : (compactP eq l).length ≤ l.length := by
 cases l with
 | nil => exact Nat.le_refl _
 | cons y ys => have := dedupFrom_len eq ys y; simp [compactP]; omega
theorem room1 {α : Type} (l : List α) (x : α) (by_ : Nat) (hl : l.length ≤ 1000000) (hby : by_ ≤ 10000) : decide ((l.length + [x].length) * by_ ≤ roomBytes') = true := by
 have p1 : (l.length + [x].length) * by_ ≤ 1000001 * 10000 := Nat.mul_le_mul (by simp; omega) hby
 exact decide_eq_true (by unfold roomBytes'; omega)
end Go.Am
