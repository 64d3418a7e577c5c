/- The plain law, in Lean alone: B1, B2. No condition: lemmas for the claim. -/
import Derived.Test.YtkcbebmbmffkjaaGreatDoorAmPrint
set_option linter.unusedVariables false
set_option linter.unusedSimpArgs false
set_option maxRecDepth 100000
namespace Go.Am
open Go
theorem w64_eq {x : Int} (h1 : -9223372036854775808 ≤ x) (h2 : x ≤ 9223372036854775807) : w64 x = x := by
 unfold w64 IntKind.wrap
 simp [IntKind.bits, IntKind.signed]
 omega
theorem w64_succ {i : Nat} (h : i < 4611686018427387904) : w64 ((i : Int) + 1) = ((i + 1 : Nat) : Int) := by
 rw [w64_eq (by omega) (by omega)]; omega
theorem w64_pred {i : Nat} (h : i < 4611686018427387904) (h0 : 0 < i) : w64 ((i : Int) - 1) = ((i - 1 : Nat) : Int) := by
 rw [w64_eq (by omega) (by omega)]; omega
theorem at_nat {α : Type} {l : List α} {i : Nat} {x : α} (h : l[i]? = some x) {R : Type} (k : α → Option R) : at_ l (i : Int) k = k x := by
 unfold at_; rw [Int.toNat_natCast, h]
theorem at_int {α : Type} {l : List α} {i : Int} {x : α} (h : l[i.toNat]? = some x) {R : Type} (k : α → Option R) : at_ l i k = k x := by
 unfold at_; rw [h]
theorem get_nat {α : Type} {l : List α} {i : Nat} {x : α} (h : l[i]? = some x) {R : Type} (k : α → Option R) : get_ l (i : Int) k = k x := by
 unfold get_; rw [at_nat h]; simp
theorem inr_nat {α : Type} {l : List α} {i : Nat} (h : i < l.length) {R : Type} (k : Option R) : inr l (i : Int) k = k := by
 unfold inr; rw [decide_eq_true (show 0 ≤ (i : Int) by omega), decide_eq_true (show (i : Int) < (l.length : Int) by omega)]; rfl
theorem set_nat {α : Type} {l : List α} {i : Nat} {x : α} : set_ l (i : Int) x = l.set i x := by unfold set_; rw [Int.toNat_natCast]
theorem len_set_ {α : Type} {l : List α} {i : Int} {x : α} : (set_ l i x).length = l.length := by unfold set_; simp
theorem drop_cons {α : Type} {l : List α} {i : Nat} {x : α} {xs : List α} (h : l.drop i = x :: xs) : l[i]? = some x ∧ i < l.length ∧ l.drop (i + 1) = xs ∧ l.length = i + 1 + xs.length := by
 have h1 : l[i]? = some x := by
  have := congrArg (fun t => t[0]?) h
  simpa [List.getElem?_drop] using this
 have h2 : i < l.length := by
  rcases Nat.lt_or_ge i l.length with h2 | h2
  ·exact h2
  ·rw [List.getElem?_eq_none h2] at h1; cases h1
 have h3 := congrArg List.length h
 simp at h3
 refine ⟨h1, h2, ?_, by omega⟩
 rw [← List.drop_drop, h]; rfl
theorem drop_nil {α : Type} {l : List α} {i : Nat} (h : l.drop i = []) : l.length ≤ i := by
 have := congrArg List.length h
 simp at this; omega
theorem lt_drop {α : Type} {l : List α} {i : Nat} {x : α} {xs : List α} (h : l.drop i = x :: xs) : decide ((i : Int) < (l.length : Int)) = true := by
 have := (drop_cons h).2.1; exact decide_eq_true (by omega)
theorem ge_drop {α : Type} {l : List α} {i : Nat} (h : l.drop i = []) : decide ((i : Int) < (l.length : Int)) = false := by
 have := drop_nil h; exact decide_eq_false (by omega)
theorem get_drop {α : Type} {l : List α} {i : Nat} {x : α} {xs : List α} (h : l.drop i = x :: xs) {R : Type} (k : α → Option R) : get_ l (i : Int) k = k x := get_nat (drop_cons h).1 k
theorem at_drop {α : Type} {l : List α} {i : Nat} {x : α} {xs : List α} (h : l.drop i = x :: xs) {R : Type} (k : α → Option R) : at_ l (i : Int) k = k x := at_nat (drop_cons h).1 k
theorem inr_drop {α : Type} {l : List α} {i : Nat} {x : α} {xs : List α} (h : l.drop i = x :: xs) {R : Type} (k : Option R) : inr l (i : Int) k = k := inr_nat (drop_cons h).2.1 k
theorem prev_drop {α : Type} {l : List α} {i : Nat} {p : α} {xs : List α} (h : l.drop (i - 1) = p :: xs) (h0 : 0 < i) (hl : l.length < 4611686018427387904) {R : Type} (k : α → Option R) : get_ l (w64 ((i : Int) - 1)) k = k p := by
 have := (drop_cons h).2.1
 rw [w64_pred (by omega) h0]; exact get_drop h k
theorem mem_drop {α : Type} {l : List α} {i : Nat} {x : α} {xs : List α} (h : l.drop i = x :: xs) : x ∈ l := List.mem_of_getElem? (drop_cons h).1
theorem sub_drop {α : Type} {l : List α} {i : Nat} {xs : List α} (h : l.drop i = xs) : ∀ x ∈ xs, x ∈ l := by
 subst h; exact fun x hx => List.mem_of_mem_drop hx
theorem mem_set' {α : Type} {l : List α} {i : Nat} {x y : α} (h : x ∈ l.set i y) : x ∈ l ∨ x = y := List.mem_or_eq_of_mem_set h
end Go.Am
set_option linter.unusedVariables false
set_option linter.unusedSimpArgs false
set_option maxRecDepth 100000
namespace Go.Am
open Go
def sEqual_L4 {α : Type} (ne : α → α → Bool) : Nat → List α → List α → Int → Int → {R : Type} → (Bool → Option R) → Option R → Option R
 | 0, _, _, _, _, _, _, _ => none
 | n + 1, v3, v4, v5, v6, _, e0, e1 => (bif (decide (v6 < v5)) then (get_ v3 v6 fun x9 => (get_ v4 v6 fun x10 => (bif (ne x9 x10) then e0 false else sEqual_L4 ne n v3 v4 v5 (w64 (v6 + 1)) e0 e1))) else e1)
def sEqual {α : Type} (N : Nat) (ne : α → α → Bool) (a b : List α) {R : Type} (k0 : Bool → Option R) : Option R :=
 (bif ((a.length : Int) != (b.length : Int)) then k0 false else (sEqual_L4 ne N a b (a.length : Int) 0 (fun e11 => k0 e11) (k0 true)))
theorem sEqual_loop {α : Type} (ne : α → α → Bool) (l : List α) (hl : l.length < 4611686018427387904) (hne : ∀ x, ne x x = false) : ∀ (xs : List α) (n i : Nat), l.drop i = xs → xs.length < n → ∀ (R : Type) (e0 : Bool → Option R) (e1 : Option R), sEqual_L4 ne n l l (l.length : Int) (i : Int) e0 e1 = e1
 | _, 0, _, _, h, _, _, _ => by omega
 | [], n + 1, i, h, _, _, _, _ => by rw [sEqual_L4, ge_drop h]; rfl
 | x :: xs, n + 1, i, h, hn, R, e0, e1 => by
  have h' := drop_cons h
  rw [sEqual_L4, lt_drop h]
  simp only [cond_true, get_drop h, hne, cond_false]
  rw [w64_succ (by omega)]
  exact sEqual_loop ne l hl hne xs n (i + 1) h'.2.2.1 (by simp at hn; omega) R e0 e1
theorem sEqual_same {α : Type} {N : Nat} {ne : α → α → Bool} {l : List α} (hN : l.length < N) (hN2 : N ≤ 4611686018427387904) (hne : ∀ x, ne x x = false) {R : Type} (k : Bool → Option R) : sEqual N ne l l k = k true := by
 unfold sEqual
 have h := sEqual_loop ne l (by omega) hne l N 0 rfl hN R (fun e11 => k e11) (k true)
 simp only [bne_self_eq_false, cond_false]
 exact h
def sEqualN_L4 {α : Type} : Nat → List α → Int → Int → {R : Type} → Option R → Option R
 | 0, _, _, _, _, _ => none
 | n + 1, v2, v3, v4, _, e0 => (bif (decide (v4 < v3)) then (get_ v2 v4 fun x6 => none) else e0)
def sEqualN {α : Type} (N : Nat) (a1 : List α) {R : Type} (k0 : Bool → Option R) : Option R :=
 (bif ((a1.length : Int) != 0) then k0 false else (sEqualN_L4 N a1 (a1.length : Int) 0 (k0 true)))
theorem sEqualN_nil {α : Type} {N : Nat} (hN : 0 < N) {R : Type} (k : Bool → Option R) : sEqualN (α := α) N [] k = k true := by
 obtain ⟨m, rfl⟩ : ∃ m, N = m + 1 := ⟨N - 1, by omega⟩
 rfl
def idxI {α : Type} (p : α → Bool) (l : List α) : Int := match l.findIdx? p with | some i => (i : Int) | none => -1
theorem idxI_ge {α : Type} (p : α → Bool) (l : List α) : decide (idxI p l ≥ 0) = l.any p := by
 unfold idxI
 cases h : l.findIdx? p with
 | some i =>
  have := List.findIdx?_isSome (xs := l) (p := p)
  rw [h] at this
  show decide ((i : Int) ≥ 0) = _
  rw [decide_eq_true (by omega)]
  simpa using this
 | none =>
  have := List.findIdx?_isSome (xs := l) (p := p)
  rw [h] at this
  simp at this ⊢
  intro x hx
  exact this x hx
def sIndexV_L2 {α β : Type} (eq : β → α → Bool) : Nat → List α → β → Int → Int → {R : Type} → (Int → Option R) → Option R → Option R
 | 0, _, _, _, _, _, _, _ => none
 | n + 1, v3, v6, v4, v5, _, e0, e1 => (bif (decide (v5 < v4)) then (get_ v3 v5 fun x8 => (bif (eq v6 x8) then e0 v5 else sIndexV_L2 eq n v3 v6 v4 (w64 (v5 + 1)) e0 e1)) else e1)
theorem sIndexV_loop {α β : Type} (eq : β → α → Bool) (v : β) (l : List α) (hl : l.length < 4611686018427387904) : ∀ (xs : List α) (n i : Nat), l.drop i = xs → xs.length < n → ∀ (R : Type) (e0 : Int → Option R) (e1 : Option R),
  sIndexV_L2 eq n l v (l.length : Int) (i : Int) e0 e1 = match xs.findIdx? (eq v) with | some j => e0 ((i + j : Nat) : Int) | none => e1
 | _, 0, _, _, h, _, _, _ => by omega
 | [], n + 1, i, h, _, _, _, _ => by rw [sIndexV_L2, ge_drop h]; rfl
 | x :: xs, n + 1, i, h, hn, R, e0, e1 => by
  have h' := drop_cons h
  rw [sIndexV_L2, lt_drop h]
  simp only [cond_true, get_drop h, List.findIdx?_cons]
  cases hq : eq v x with
  | true => simp
  | false =>
   simp only [cond_false]
   rw [w64_succ (by omega), sIndexV_loop eq v l hl xs n (i + 1) h'.2.2.1 (by simp at hn; omega) R e0 e1]
   cases xs.findIdx? (eq v) with
   | none => rfl
   | some j => simp; congr 1; omega
def sIndexV {α β : Type} (N : Nat) (eq : β → α → Bool) (a1 : List α) (a2 : β) {R : Type} (k0 : Int → Option R) : Option R := (sIndexV_L2 eq N a1 a2 (a1.length : Int) 0 (fun e9 => k0 e9) (k0 (-1)))
theorem sIndexV_is {α β : Type} {N : Nat} (eq : β → α → Bool) (v : β) (l : List α) (hN : l.length < N) (hN2 : N ≤ 4611686018427387904) {R : Type} (k : Int → Option R) :
  sIndexV N eq l v k = k (idxI (eq v) l) := by
 unfold sIndexV
 have h := sIndexV_loop eq v l (by omega) l N 0 rfl hN R (fun e9 => k e9) (k (-1))
 refine h.trans ?_
 unfold idxI
 cases l.findIdx? (eq v) with
 | none => rfl
 | some j => simp
def sIndexF_L2 {α σ : Type} (f : α → σ → {R : Type} → (Bool → σ → Option R) → Option R) : Nat → List α → Int → Int → σ → {R : Type} → (Int → σ → Option R) → (σ → Option R) → Option R
 | 0, _, _, _, _, _, _, _ => none
 | n + 1, v3, v4, v5, v6, _, e0, e1 => (bif (decide (v5 < v4)) then (get_ v3 v5 fun x10 => (f x10 v6 (fun r11 r12 => (bif r11 then e0 v5 r12 else sIndexF_L2 f n v3 v4 (w64 (v5 + 1)) r12 e0 e1)))) else e1 v6)
theorem sIndexF_loop {α σ : Type} (f : α → σ → {R : Type} → (Bool → σ → Option R) → Option R) (p : α → Bool) (s : σ) (l : List α) (hf : ∀ x ∈ l, ∀ (R : Type) (k : Bool → σ → Option R), f x s k = k (p x) s) (hl : l.length < 4611686018427387904) :
  ∀ (xs : List α) (n i : Nat), l.drop i = xs → xs.length < n → ∀ (R : Type) (e0 : Int → σ → Option R) (e1 : σ → Option R),
  sIndexF_L2 f n l (l.length : Int) (i : Int) s e0 e1 = match xs.findIdx? p with | some j => e0 ((i + j : Nat) : Int) s | none => e1 s
 | _, 0, _, _, h, _, _, _ => by omega
 | [], n + 1, i, h, _, _, _, _ => by rw [sIndexF_L2, ge_drop h]; rfl
 | x :: xs, n + 1, i, h, hn, R, e0, e1 => by
  have h' := drop_cons h
  rw [sIndexF_L2, lt_drop h]
  simp only [cond_true, get_drop h, List.findIdx?_cons, hf x (mem_drop h)]
  cases hq : p x with
  | true => simp
  | false =>
   simp only [cond_false]
   rw [w64_succ (by omega), sIndexF_loop f p s l hf hl xs n (i + 1) h'.2.2.1 (by simp at hn; omega) R e0 e1]
   cases xs.findIdx? p with
   | none => rfl
   | some j => simp; congr 1; omega
def sIndexF {α σ : Type} (N : Nat) (f : α → σ → {R : Type} → (Bool → σ → Option R) → Option R) (a1 : List α) (a2 : σ) {R : Type} (k0 : Int → σ → Option R) : Option R := (sIndexF_L2 f N a1 (a1.length : Int) 0 a2 (fun e9 e10 => k0 e9 e10) (fun e => k0 (-1) e))
theorem sIndexF_is {α σ : Type} {N : Nat} (f : α → σ → {R : Type} → (Bool → σ → Option R) → Option R) (p : α → Bool) (s : σ) (l : List α) (hf : ∀ x ∈ l, ∀ (R : Type) (k : Bool → σ → Option R), f x s k = k (p x) s) (hN : l.length < N) (hN2 : N ≤ 4611686018427387904) {R : Type} (k : Int → σ → Option R) :
  sIndexF N f l s k = k (idxI p l) s := by
 unfold sIndexF
 have h := sIndexF_loop f p s l hf (by omega) l N 0 rfl hN R (fun e9 e10 => k e9 e10) (fun e => k (-1) e)
 refine h.trans ?_
 unfold idxI
 cases l.findIdx? p with
 | none => rfl
 | some j => simp
def sIns_L4 {α : Type} (cmp : CmpT α) : Nat → Int → Int → Int → Int → List α → {R : Type} → (Int → Int → Int → List α → Option R) → Option R
 | 0, _, _, _, _, _, _, _ => none
 | n + 1, v31, v32, v33, v34, v35, _, e0 => (bif (decide (v34 > v31)) then (inr v35 v34 (at_ v35 v34 fun x43 => (inr v35 (w64 (v34 - 1)) (at_ v35 (w64 (v34 - 1)) fun x44 => (cmp x43 x44 (fun r45 => (bif (decide (r45 < 0)) then (inr v35 (w64 (v34 - 1)) (at_ v35 (w64 (v34 - 1)) fun x46 => (inr v35 v34 (at_ v35 v34 fun x47 => (inr v35 v34 (at_ v35 v34 fun x48 => (inr (set_ v35 v34 x46) (w64 (v34 - 1)) (at_ (set_ v35 v34 x46) (w64 (v34 - 1)) fun x49 => sIns_L4 cmp n v31 v32 v33 (w64 (v34 - 1)) (set_ (set_ v35 v34 x46) (w64 (v34 - 1)) x47) e0)))))))) else e0 v31 v32 v33 v35))))))) else e0 v31 v32 v33 v35)
def sIns_L1 {α : Type} (N : Nat) (cmp : CmpT α) : Nat → Int → Int → Int → List α → {R : Type} → (List α → Option R) → Option R
 | 0, _, _, _, _, _, _ => none
 | n + 1, v4, v5, v6, v7, _, e0 => (bif (decide (v6 < v5)) then (sIns_L4 cmp N v4 v5 v6 v6 v7 (fun e50 e51 e52 e53 => sIns_L1 N cmp n e50 e51 (w64 (e52 + 1)) e53 e0)) else e0 v7)
def sIns {α : Type} (N : Nat) (cmp : CmpT α) (a1 : List α) (a2 a3 : Int) {R : Type} (k0 : List α → Option R) : Option R :=
 (sIns_L1 N cmp N a2 a3 (w64 (a2 + 1)) a1 (fun e54 => k0 e54))
def insRev {α : Type} (c : α → α → Int) (x : α) : List α → List α
 | [] => [x]
 | y :: ys => if c x y < 0 then y :: insRev c x ys else x :: y :: ys
def sortRev {α : Type} (c : α → α → Int) : List α → List α → List α
 | acc, [] => acc
 | acc, x :: xs => sortRev c (insRev c x acc) xs
def sortI {α : Type} (c : α → α → Int) (l : List α) : List α := (sortRev c [] l).reverse
theorem insRev_perm {α : Type} (c : α → α → Int) (x : α) : ∀ l : List α, (insRev c x l).Perm (x :: l)
 | [] => .refl _
 | y :: ys => by
  unfold insRev
  split
  ·exact ((insRev_perm c x ys).cons y).trans (List.Perm.swap x y ys)
  ·exact .refl _
theorem sortRev_perm {α : Type} (c : α → α → Int) : ∀ (l acc : List α), (sortRev c acc l).Perm (acc ++ l)
 | [], acc => by simp [sortRev]
 | x :: xs, acc => by
  unfold sortRev
  refine (sortRev_perm c xs _).trans ?_
  refine ((insRev_perm c x acc).append_right xs).trans ?_
  exact (List.perm_middle (l₁ := acc) (l₂ := xs) (a := x)).symm
theorem sortI_perm {α : Type} (c : α → α → Int) (l : List α) : (sortI c l).Perm l := by
 unfold sortI
 exact (List.reverse_perm _).trans (by simpa using sortRev_perm c l [])
theorem sortI_length {α : Type} (c : α → α → Int) (l : List α) : (sortI c l).length = l.length := (sortI_perm c l).length_eq
theorem sortI_mem {α : Type} {c : α → α → Int} {l : List α} {x : α} : x ∈ sortI c l ↔ x ∈ l := (sortI_perm c l).mem_iff
theorem insRev_sorted {α : Type} {c : α → α → Int} {S : α → Prop} (hp : Pre c S) (x : α) (hx : S x) : ∀ l : List α, (∀ y ∈ l, S y) → l.Pairwise (fun a b => c b a ≤ 0) → (insRev c x l).Pairwise (fun a b => c b a ≤ 0)
 | [], _, _ => by simp [insRev]
 | y :: ys, hS, h => by
  have hy : S y := hS y (by simp)
  have hys : ∀ z ∈ ys, S z := fun z hz => hS z (by simp [hz])
  unfold insRev
  have h' := List.pairwise_cons.1 h
  split
  ·rename_i hlt
   refine List.pairwise_cons.2 ⟨fun z hz => ?_, insRev_sorted hp x hx ys hys h'.2⟩
   rcases List.mem_cons.1 ((insRev_perm c x ys).mem_iff.1 hz) with rfl | hz
   ·exact Int.le_of_lt hlt
   ·exact h'.1 z hz
  ·rename_i hlt
   have hyx : c y x ≤ 0 := by
    rcases hp.total y x hy hx with h1 | h1
    ·exact h1
    ·have := (hp.neg x y hx hy)
     by_cases h2 : c y x ≤ 0
     ·exact h2
     ·exact absurd (this.2 h2) hlt
   refine List.pairwise_cons.2 ⟨fun z hz => ?_, h⟩
   rcases List.mem_cons.1 hz with rfl | hz
   ·exact hyx
   ·exact hp.trans z y x (hys z hz) hy hx (h'.1 z hz) hyx
theorem sortRev_sorted {α : Type} {c : α → α → Int} {S : α → Prop} (hp : Pre c S) : ∀ l acc : List α, (∀ y ∈ l, S y) → (∀ y ∈ acc, S y) → acc.Pairwise (fun a b => c b a ≤ 0) → (sortRev c acc l).Pairwise (fun a b => c b a ≤ 0)
 | [], _, _, _, h => h
 | x :: xs, acc, h1, h2, h => by
  unfold sortRev
  refine sortRev_sorted hp xs _ (fun y hy => h1 y (by simp [hy])) (fun y hy => ?_) (insRev_sorted hp x (h1 x (by simp)) acc h2 h)
  rcases List.mem_cons.1 ((insRev_perm c x acc).mem_iff.1 hy) with rfl | hy
  ·exact h1 _ (by simp)
  ·exact h2 y hy
theorem sortI_sorted {α : Type} {c : α → α → Int} {S : α → Prop} (hp : Pre c S) (l : List α) (h : ∀ y ∈ l, S y) : (sortI c l).Pairwise (fun a b => c a b ≤ 0) := by
 unfold sortI
 rw [List.pairwise_reverse]
 exact sortRev_sorted hp l [] h (fun y hy => by cases hy) List.Pairwise.nil
theorem set_mid {α : Type} (pre : List α) (a b : α) (post : List α) : (pre ++ a :: post).set pre.length b = pre ++ b :: post := by
 induction pre with
 | nil => rfl
 | cons x xs ih => simp [ih]
theorem get_mid {α : Type} (pre : List α) (a : α) (post : List α) : (pre ++ a :: post)[pre.length]? = some a := by simp
theorem sIns_inner {α : Type} (cmp : CmpT α) (c : α → α → Int) (S : α → Prop) (hc : ∀ x y, S x → S y → ∀ (R : Type) (k : Int → Option R), cmp x y k = k (c x y)) (x : α) (hx : S x) (b i : Int) :
  ∀ (rs post : List α) (n : Nat), (∀ y ∈ rs, S y) → rs.length < n → rs.length + post.length < 4611686018427387000 → ∀ (R : Type) (e0 : Int → Int → Int → List α → Option R),
  sIns_L4 cmp n 0 b i (rs.length : Int) (rs.reverse ++ x :: post) e0 = e0 0 b i ((insRev c x rs).reverse ++ post)
 | _, _, 0, _, h, _, _, _ => by omega
 | [], post, n + 1, _, _, _, R, e0 => by rw [sIns_L4]; simp [insRev]
 | y :: ys, post, n + 1, hS, hn, hl, R, e0 => by
  have hy : S y := hS y (by simp)
  have e1 : w64 (((y :: ys).length : Nat) - 1 : Int) = (ys.length : Int) := by
   rw [w64_eq (by omega) (by simp at hl ⊢; omega)]; simp
  have hd : (y :: ys).reverse ++ x :: post = ys.reverse ++ y :: x :: post := by simp
  have g1 : (ys.reverse ++ y :: x :: post)[ys.length]? = some y := by
   have := get_mid ys.reverse y (x :: post); rwa [List.length_reverse] at this
  have hd2 : ys.reverse ++ y :: x :: post = (ys.reverse ++ [y]) ++ x :: post := by simp
  have g2 : (ys.reverse ++ y :: x :: post)[ys.length + 1]? = some x := by
   have := get_mid (ys.reverse ++ [y]) x post
   rw [← hd2] at this; rwa [List.length_append, List.length_reverse] at this
  have len1 : (ys.reverse ++ y :: x :: post).length = ys.length + 2 + post.length := by simp; omega
  have s1 : (ys.reverse ++ y :: x :: post).set (ys.length + 1) y = ys.reverse ++ y :: y :: post := by
   have := set_mid (ys.reverse ++ [y]) x y post
   rw [← hd2] at this
   rw [List.length_append, List.length_reverse] at this
   refine Eq.trans this ?_
   simp
  have s2 : (ys.reverse ++ y :: y :: post).set ys.length x = ys.reverse ++ x :: y :: post := by
   have := set_mid ys.reverse y x (y :: post); rwa [List.length_reverse] at this
  have g3 : (ys.reverse ++ y :: y :: post)[ys.length]? = some y := by
   have := get_mid ys.reverse y (y :: post); rwa [List.length_reverse] at this
  have c1 : (((y :: ys).length : Nat) : Int) = ((ys.length + 1 : Nat) : Int) := by simp
  rw [sIns_L4]
  rw [decide_eq_true (show (((y :: ys).length : Nat) : Int) > 0 by simp)]
  simp only [cond_true, hd, e1]
  rw [c1]
  rw [inr_nat (by omega), at_nat g2, inr_nat (by omega), at_nat g1, hc x y hx hy]
  unfold insRev
  by_cases hlt : c x y < 0
  ·rw [decide_eq_true hlt, if_pos hlt]
   simp only [cond_true]
   rw [inr_nat (by omega), at_nat g1, inr_nat (by omega), at_nat g2, inr_nat (by omega), at_nat g2, set_nat, s1, inr_nat (by simp), at_nat g3, set_nat, s2]
   rw [sIns_inner cmp c S hc x hx b i ys (y :: post) n (fun z hz => hS z (by simp [hz])) (by simp at hn; omega) (by simp at hl ⊢; omega) R e0]
   simp
  ·rw [decide_eq_false hlt, if_neg hlt]
   simp
theorem sIns_outer {α : Type} (N : Nat) (cmp : CmpT α) (c : α → α → Int) (S : α → Prop) (hc : ∀ x y, S x → S y → ∀ (R : Type) (k : Int → Option R), cmp x y k = k (c x y)) (len : Nat) (hlen : len < 4611686018427380000) (hN : len < N) :
  ∀ (rest acc : List α) (n : Nat), (∀ y ∈ acc, S y) → (∀ y ∈ rest, S y) → acc.length + rest.length = len → rest.length < n → ∀ (R : Type) (e0 : List α → Option R),
  sIns_L1 N cmp n 0 (len : Int) (acc.length : Int) (acc.reverse ++ rest) e0 = e0 (sortRev c acc rest).reverse
 | _, _, 0, _, _, _, h, _, _ => by omega
 | [], acc, n + 1, _, _, hl, _, R, e0 => by
  rw [sIns_L1, decide_eq_false (by simp at hl; omega)]
  simp [sortRev]
 | x :: xs, acc, n + 1, hS, hS2, hl, hn, R, e0 => by
  have hx : S x := hS2 x (by simp)
  have hlx : (insRev c x acc).length = acc.length + 1 := by rw [(insRev_perm c x acc).length_eq]; simp
  rw [sIns_L1, decide_eq_true (by simp at hl; omega)]
  simp only [cond_true]
  rw [sIns_inner cmp c S hc x hx (len : Int) (acc.length : Int) acc xs N hS (by simp at hl; omega) (by simp at hl; omega), w64_succ (by omega), ← hlx]
  rw [sIns_outer N cmp c S hc len hlen hN xs (insRev c x acc) n (fun y hy => by
   rcases List.mem_cons.1 ((insRev_perm c x acc).mem_iff.1 hy) with rfl | hy
   ·exact hx
   ·exact hS y hy) (fun y hy => hS2 y (by simp [hy])) (by simp at hl ⊢; omega) (by simp at hn; omega) R e0]
  rfl
theorem sIns_is {α : Type} {N : Nat} {cmp : CmpT α} (c : α → α → Int) (S : α → Prop) (hc : ∀ x y, S x → S y → ∀ (R : Type) (k : Int → Option R), cmp x y k = k (c x y)) (l : List α) (hS : ∀ y ∈ l, S y) (hN : l.length + 1 < N) (hN2 : N ≤ 4611686018427380000) {R : Type} (k : List α → Option R) :
  sIns N cmp l 0 (l.length : Int) k = k (sortI c l) := by
 unfold sIns
 rw [w64_eq (by omega) (by omega)]
 cases l with
 | nil =>
  obtain ⟨m, rfl⟩ : ∃ m, N = m + 1 := ⟨N - 1, by omega⟩
  rw [sIns_L1]; simp [sortI, sortRev]
 | cons x xs =>
  have h := sIns_outer N cmp c S hc (x :: xs).length (by omega) (by omega) xs [x] N (by simpa using hS x (by simp)) (fun y hy => hS y (by simp [hy])) (by simp; omega) (by simp at hN; omega) R (fun e54 => k e54)
  simp only [List.length_singleton, List.reverse_singleton, List.singleton_append] at h
  exact h
theorem sIns_end {α : Type} {N : Nat} {cmp : CmpT α} (l : List α) (a : Int) (h1 : -1000000 ≤ a) (h2 : a ≤ 1000000000) (hN : 0 < N) {R : Type} (k : List α → Option R) : sIns N cmp l a a k = k l := by
 unfold sIns
 obtain ⟨m, rfl⟩ : ∃ m, N = m + 1 := ⟨N - 1, by omega⟩
 rw [w64_eq (by omega) (by omega), sIns_L1, decide_eq_false (by omega)]
 rfl
end Go.Am
